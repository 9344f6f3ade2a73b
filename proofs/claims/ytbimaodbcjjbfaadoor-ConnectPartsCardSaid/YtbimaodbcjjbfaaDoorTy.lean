/- A part of the proofs of statements of this seat: contracts of functions, and the plain laws that they lean on. No conditions. -/
import Derived.Test.YtbimaodbcjjbfaaDoorLib
import Derived.Test.YtbimaodbcjjbfaaDoorProg
import Derived.KernelRfl
namespace Go.Sl
open Go.Proofs
theorem ty2 : tyF Tryd.prog 2 = some (1, false, 8, [I64 (0)]) := by kernel_rfl
theorem ty3 : tyF Tryd.prog 3 = some (1, false, 8, [I64 (0)]) := by kernel_rfl
theorem ty5 : tyF Tryd.prog 5 = some (1, false, 1, [.int .u8 (0)]) := by kernel_rfl
theorem ty22 : tyF Tryd.prog 22 = some (1, false, 24, [.slice none 0 0]) := by kernel_rfl
theorem ty23 : tyF Tryd.prog 23 = some (1, false, 24, [.slice none 0 0]) := by kernel_rfl
theorem ty25 : tyF Tryd.prog 25 = some (2, true, 32, [I64 (0), .slice none 0 0]) := by kernel_rfl
theorem fld25_0 : fldF Tryd.prog 25 0 = some 0 := by kernel_rfl
theorem fld25_1 : fldF Tryd.prog 25 1 = some 1 := by kernel_rfl
theorem pl25 (w : World) : (placesRun Tryd.prog 25).run Tryd.prog w = .ok #[(0, 1), (1, 1)] w := by kernel_rfl
theorem ty29 : tyF Tryd.prog 29 = some (1, false, 24, [.slice none 0 0]) := by kernel_rfl
theorem ty38 : tyF Tryd.prog 38 = some (2, true, 16, [I64 (0), I64 (0)]) := by kernel_rfl
theorem fld38_0 : fldF Tryd.prog 38 0 = some 0 := by kernel_rfl
theorem fld38_1 : fldF Tryd.prog 38 1 = some 1 := by kernel_rfl
theorem pl38 (w : World) : (placesRun Tryd.prog 38).run Tryd.prog w = .ok #[(0, 1), (1, 1)] w := by kernel_rfl
theorem ty63 : tyF Tryd.prog 63 = some (2, true, 16, [I64 (0), I64 (0)]) := by kernel_rfl
theorem ty65 : tyF Tryd.prog 65 = some (2, true, 48, [.slice none 0 0, .slice none 0 0]) := by kernel_rfl
theorem ty96 : tyF Tryd.prog 96 = some (2, true, 32, [.slice none 0 0, I64 (0)]) := by kernel_rfl
theorem fld96_0 : fldF Tryd.prog 96 0 = some 0 := by kernel_rfl
theorem fld96_1 : fldF Tryd.prog 96 1 = some 1 := by kernel_rfl
theorem pl96 (w : World) : (placesRun Tryd.prog 96).run Tryd.prog w = .ok #[(0, 1), (1, 1)] w := by kernel_rfl
theorem ty99 : tyF Tryd.prog 99 = some (1, false, 8, [.int .u64 (0)]) := by kernel_rfl
theorem ty106 : tyF Tryd.prog 106 = some (1, false, 24, [.slice none 0 0]) := by kernel_rfl
end Go.Sl
namespace Go.Sl
open Go.Proofs
theorem ty153 : tyF Tryd.prog 153 = some (1, false, 24, [.slice none 0 0]) := by kernel_rfl
theorem ty155 : tyF Tryd.prog 155 = some (7, true, 152, [.slice none 0 0, .slice none 0 0, .slice none 0 0, .slice none 0 0, .slice none 0 0, .slice none 0 0, I64 (0)]) := by kernel_rfl
theorem fld155_0 : fldF Tryd.prog 155 0 = some 0 := by kernel_rfl
theorem fld155_1 : fldF Tryd.prog 155 1 = some 1 := by kernel_rfl
theorem fld155_2 : fldF Tryd.prog 155 2 = some 2 := by kernel_rfl
theorem fld155_3 : fldF Tryd.prog 155 3 = some 3 := by kernel_rfl
theorem fld155_4 : fldF Tryd.prog 155 4 = some 4 := by kernel_rfl
theorem fld155_5 : fldF Tryd.prog 155 5 = some 5 := by kernel_rfl
theorem fld155_6 : fldF Tryd.prog 155 6 = some 6 := by kernel_rfl
theorem pl155 (w : World) : (placesRun Tryd.prog 155).run Tryd.prog w = .ok #[(0, 1), (1, 1), (2, 1), (3, 1), (4, 1), (5, 1), (6, 1)] w := by kernel_rfl
theorem ty183 : tyF Tryd.prog 183 = some (3, true, 24, [I64 (0), I64 (0), .int .u64 (0)]) := by kernel_rfl
theorem fld183_0 : fldF Tryd.prog 183 0 = some 0 := by kernel_rfl
theorem fld183_1 : fldF Tryd.prog 183 1 = some 1 := by kernel_rfl
theorem fld183_2 : fldF Tryd.prog 183 2 = some 2 := by kernel_rfl
theorem pl183 (w : World) : (placesRun Tryd.prog 183).run Tryd.prog w = .ok #[(0, 1), (1, 1), (2, 1)] w := by kernel_rfl
end Go.Sl
namespace Go.Sl
open Go.Proofs
theorem call12 : callable Tryd.prog 12 = true := by kernel_rfl
theorem call13 : callable Tryd.prog 13 = true := by kernel_rfl
theorem call14 : callable Tryd.prog 14 = true := by kernel_rfl
theorem call15 : callable Tryd.prog 15 = true := by kernel_rfl
theorem call16 : callable Tryd.prog 16 = true := by kernel_rfl
theorem call17 : callable Tryd.prog 17 = true := by kernel_rfl
theorem call18 : callable Tryd.prog 18 = true := by kernel_rfl
theorem call19 : callable Tryd.prog 19 = true := by kernel_rfl
theorem call20 : callable Tryd.prog 20 = true := by kernel_rfl
theorem call21 : callable Tryd.prog 21 = true := by kernel_rfl
theorem call22 : callable Tryd.prog 22 = true := by kernel_rfl
theorem call23 : callable Tryd.prog 23 = true := by kernel_rfl
theorem call24 : callable Tryd.prog 24 = true := by kernel_rfl
theorem call25 : callable Tryd.prog 25 = true := by kernel_rfl
theorem call26 : callable Tryd.prog 26 = true := by kernel_rfl
theorem call27 : callable Tryd.prog 27 = true := by kernel_rfl
theorem call28 : callable Tryd.prog 28 = true := by kernel_rfl
theorem call29 : callable Tryd.prog 29 = true := by kernel_rfl
theorem call30 : callable Tryd.prog 30 = true := by kernel_rfl
theorem call32 : callable Tryd.prog 32 = true := by kernel_rfl
theorem call33 : callable Tryd.prog 33 = true := by kernel_rfl
theorem call34 : callable Tryd.prog 34 = true := by kernel_rfl
theorem call35 : callable Tryd.prog 35 = true := by kernel_rfl
theorem call36 : callable Tryd.prog 36 = true := by kernel_rfl
theorem call37 : callable Tryd.prog 37 = true := by kernel_rfl
theorem call38 : callable Tryd.prog 38 = true := by kernel_rfl
theorem call39 : callable Tryd.prog 39 = true := by kernel_rfl
theorem call40 : callable Tryd.prog 40 = true := by kernel_rfl
theorem call41 : callable Tryd.prog 41 = true := by kernel_rfl
theorem call46 : callable Tryd.prog 46 = true := by kernel_rfl
theorem call54 : callable Tryd.prog 54 = true := by kernel_rfl
theorem call66 : callable Tryd.prog 66 = true := by kernel_rfl
theorem call67 : callable Tryd.prog 67 = true := by kernel_rfl
theorem call68 : callable Tryd.prog 68 = true := by kernel_rfl
theorem call69 : callable Tryd.prog 69 = true := by kernel_rfl
theorem call70 : callable Tryd.prog 70 = true := by kernel_rfl
theorem call71 : callable Tryd.prog 71 = true := by kernel_rfl
theorem call72 : callable Tryd.prog 72 = true := by kernel_rfl
theorem call73 : callable Tryd.prog 73 = true := by kernel_rfl
theorem call74 : callable Tryd.prog 74 = true := by kernel_rfl
theorem call75 : callable Tryd.prog 75 = true := by kernel_rfl
theorem call76 : callable Tryd.prog 76 = true := by kernel_rfl
theorem call77 : callable Tryd.prog 77 = true := by kernel_rfl
theorem call78 : callable Tryd.prog 78 = true := by kernel_rfl
theorem call79 : callable Tryd.prog 79 = true := by kernel_rfl
theorem call80 : callable Tryd.prog 80 = true := by kernel_rfl
theorem call81 : callable Tryd.prog 81 = true := by kernel_rfl
theorem call83 : callable Tryd.prog 83 = true := by kernel_rfl
theorem call84 : callable Tryd.prog 84 = true := by kernel_rfl
theorem call85 : callable Tryd.prog 85 = true := by kernel_rfl
end Go.Sl
namespace Go.Sl
open Go.Proofs
theorem call119 : callable Tryd.prog 119 = true := by kernel_rfl
theorem call120 : callable Tryd.prog 120 = true := by kernel_rfl
theorem call121 : callable Tryd.prog 121 = true := by kernel_rfl
theorem call123 : callable Tryd.prog 123 = true := by kernel_rfl
theorem call124 : callable Tryd.prog 124 = true := by kernel_rfl
theorem call125 : callable Tryd.prog 125 = true := by kernel_rfl
theorem call139 : callable Tryd.prog 139 = true := by kernel_rfl
theorem call147 : callable Tryd.prog 147 = true := by kernel_rfl
theorem call148 : callable Tryd.prog 148 = true := by kernel_rfl
theorem call149 : callable Tryd.prog 149 = true := by kernel_rfl
theorem call166 : callable Tryd.prog 166 = true := by kernel_rfl
theorem call174 : callable Tryd.prog 174 = true := by kernel_rfl
theorem call175 : callable Tryd.prog 175 = true := by kernel_rfl
theorem call176 : callable Tryd.prog 176 = true := by kernel_rfl
theorem mixed : Tryd.prog.follows .mixedOrders = true := by kernel_rfl
end Go.Sl

