/- A part of the proofs of statements of this seat: contracts of functions, and the plain laws that they lean on. No conditions. -/
import Derived.Test.YtbimaodbcjjbfaaLib
import Derived.Test.YtbimaodbcjjbfaaProg
import Derived.KernelRfl
namespace Go.Sl
open Go.Proofs
theorem ty2 : tyF Try.prog 2 = some (1, false, 8, [I64 (0)]) := by kernel_rfl
theorem ty3 : tyF Try.prog 3 = some (1, false, 8, [I64 (0)]) := by kernel_rfl
theorem ty22 : tyF Try.prog 22 = some (1, false, 24, [.slice none 0 0]) := by kernel_rfl
theorem ty55 : tyF Try.prog 55 = some (1, false, 24, [.slice none 0 0]) := by kernel_rfl
theorem ty57 : tyF Try.prog 57 = some (2, true, 32, [I64 (0), .slice none 0 0]) := by kernel_rfl
theorem fld57_0 : fldF Try.prog 57 0 = some 0 := by kernel_rfl
theorem fld57_1 : fldF Try.prog 57 1 = some 1 := by kernel_rfl
theorem pl57 (w : World) : (placesRun Try.prog 57).run Try.prog w = .ok #[(0, 1), (1, 1)] w := by kernel_rfl
theorem ty60 : tyF Try.prog 60 = some (2, true, 16, [I64 (0), I64 (0)]) := by kernel_rfl
theorem ty65 : tyF Try.prog 65 = some (1, false, 24, [.slice none 0 0]) := by kernel_rfl
theorem ty97 : tyF Try.prog 97 = some (1, false, 24, [.slice none 0 0]) := by kernel_rfl
theorem ty99 : tyF Try.prog 99 = some (2, true, 32, [I64 (0), .slice none 0 0]) := by kernel_rfl
theorem fld99_0 : fldF Try.prog 99 0 = some 0 := by kernel_rfl
theorem fld99_1 : fldF Try.prog 99 1 = some 1 := by kernel_rfl
theorem pl99 (w : World) : (placesRun Try.prog 99).run Try.prog w = .ok #[(0, 1), (1, 1)] w := by kernel_rfl
end Go.Sl
namespace Go.Sl
open Go.Proofs
theorem ty129 : tyF Try.prog 129 = some (2, true, 32, [.slice none 0 0, I64 (0)]) := by kernel_rfl
theorem fld129_0 : fldF Try.prog 129 0 = some 0 := by kernel_rfl
theorem fld129_1 : fldF Try.prog 129 1 = some 1 := by kernel_rfl
theorem pl129 (w : World) : (placesRun Try.prog 129).run Try.prog w = .ok #[(0, 1), (1, 1)] w := by kernel_rfl
theorem ty150 : tyF Try.prog 150 = some (2, true, 16, [I64 (0), I64 (0)]) := by kernel_rfl
theorem fld150_0 : fldF Try.prog 150 0 = some 0 := by kernel_rfl
theorem fld150_1 : fldF Try.prog 150 1 = some 1 := by kernel_rfl
theorem pl150 (w : World) : (placesRun Try.prog 150).run Try.prog w = .ok #[(0, 1), (1, 1)] w := by kernel_rfl
end Go.Sl
namespace Go.Sl
open Go.Proofs
theorem call22 : callable Try.prog 22 = true := by kernel_rfl
theorem call25 : callable Try.prog 25 = true := by kernel_rfl
theorem call42 : callable Try.prog 42 = true := by kernel_rfl
theorem call43 : callable Try.prog 43 = true := by kernel_rfl
theorem call45 : callable Try.prog 45 = true := by kernel_rfl
theorem call46 : callable Try.prog 46 = true := by kernel_rfl
theorem call63 : callable Try.prog 63 = true := by kernel_rfl
theorem call64 : callable Try.prog 64 = true := by kernel_rfl
theorem call65 : callable Try.prog 65 = true := by kernel_rfl
theorem call72 : callable Try.prog 72 = true := by kernel_rfl
theorem call74 : callable Try.prog 74 = true := by kernel_rfl
theorem call81 : callable Try.prog 81 = true := by kernel_rfl
theorem call110 : callable Try.prog 110 = true := by kernel_rfl
theorem call111 : callable Try.prog 111 = true := by kernel_rfl
theorem call112 : callable Try.prog 112 = true := by kernel_rfl
theorem call113 : callable Try.prog 113 = true := by kernel_rfl
theorem call114 : callable Try.prog 114 = true := by kernel_rfl
end Go.Sl
namespace Go.Sl
open Go.Proofs
theorem call125 : callable Try.prog 125 = true := by kernel_rfl
theorem call126 : callable Try.prog 126 = true := by kernel_rfl
theorem call127 : callable Try.prog 127 = true := by kernel_rfl
theorem call128 : callable Try.prog 128 = true := by kernel_rfl
theorem call129 : callable Try.prog 129 = true := by kernel_rfl
theorem call135 : callable Try.prog 135 = true := by kernel_rfl
theorem call146 : callable Try.prog 146 = true := by kernel_rfl
theorem call172 : callable Try.prog 172 = true := by kernel_rfl
theorem call173 : callable Try.prog 173 = true := by kernel_rfl
theorem call174 : callable Try.prog 174 = true := by kernel_rfl
theorem call175 : callable Try.prog 175 = true := by kernel_rfl
theorem call192 : callable Try.prog 192 = true := by kernel_rfl
theorem call193 : callable Try.prog 193 = true := by kernel_rfl
theorem call217 : callable Try.prog 217 = true := by kernel_rfl
theorem mixed : Try.prog.follows .mixedOrders = true := by kernel_rfl
end Go.Sl

