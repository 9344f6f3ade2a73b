/- A part of the proofs of statements of this seat: contracts of functions, and the plain laws that they lean on. No conditions. -/
import Derived.Test.YtbimaodbcjjbfaaDoorLib
import Derived.Test.YtbimaodbcjjbfaaDoorProg
import Derived.KernelRfl
namespace Go.Sl
open Go.Proofs
theorem ty3 : tyF Tryd.prog 3 = some (1, false, 8, [I64 (0)]) := by kernel_rfl
theorem ty4 : tyF Tryd.prog 4 = some (1, false, 1, [.bool false]) := by kernel_rfl
theorem ty5 : tyF Tryd.prog 5 = some (1, false, 1, [.int .u8 (0)]) := by kernel_rfl
theorem ty22 : tyF Tryd.prog 22 = some (1, false, 24, [.slice none 0 0]) := by kernel_rfl
theorem ty23 : tyF Tryd.prog 23 = some (1, false, 24, [.slice none 0 0]) := by kernel_rfl
theorem ty25 : tyF Tryd.prog 25 = some (2, true, 32, [I64 (0), .slice none 0 0]) := by kernel_rfl
theorem fld25_0 : fldF Tryd.prog 25 0 = some 0 := by kernel_rfl
theorem fld25_1 : fldF Tryd.prog 25 1 = some 1 := by kernel_rfl
theorem pl25 (w : World) : (placesRun Tryd.prog 25).run Tryd.prog w = .ok #[(0, 1), (1, 1)] w := by kernel_rfl
theorem ty38 : tyF Tryd.prog 38 = some (2, true, 16, [I64 (0), I64 (0)]) := by kernel_rfl
theorem fld38_0 : fldF Tryd.prog 38 0 = some 0 := by kernel_rfl
theorem fld38_1 : fldF Tryd.prog 38 1 = some 1 := by kernel_rfl
theorem pl38 (w : World) : (placesRun Tryd.prog 38).run Tryd.prog w = .ok #[(0, 1), (1, 1)] w := by kernel_rfl
theorem ty50 : tyF Tryd.prog 50 = some (1, false, 24, [.slice none 0 0]) := by kernel_rfl
theorem ty69 : tyF Tryd.prog 69 = some (2, true, 32, [.slice none 0 0, I64 (0)]) := by kernel_rfl
theorem fld69_0 : fldF Tryd.prog 69 0 = some 0 := by kernel_rfl
theorem fld69_1 : fldF Tryd.prog 69 1 = some 1 := by kernel_rfl
theorem pl69 (w : World) : (placesRun Tryd.prog 69).run Tryd.prog w = .ok #[(0, 1), (1, 1)] w := by kernel_rfl
theorem ty96 : tyF Tryd.prog 96 = some (2, true, 32, [.slice none 0 0, I64 (0)]) := by kernel_rfl
theorem fld96_0 : fldF Tryd.prog 96 0 = some 0 := by kernel_rfl
theorem fld96_1 : fldF Tryd.prog 96 1 = some 1 := by kernel_rfl
theorem pl96 (w : World) : (placesRun Tryd.prog 96).run Tryd.prog w = .ok #[(0, 1), (1, 1)] w := by kernel_rfl
theorem ty99 : tyF Tryd.prog 99 = some (1, false, 8, [.int .u64 (0)]) := by kernel_rfl
theorem ty106 : tyF Tryd.prog 106 = some (1, false, 24, [.slice none 0 0]) := by kernel_rfl
theorem ty119 : tyF Tryd.prog 119 = some (3, true, 56, [.slice none 0 0, I64 (0), .slice none 0 0]) := by kernel_rfl
theorem fld119_0 : fldF Tryd.prog 119 0 = some 0 := by kernel_rfl
theorem fld119_1 : fldF Tryd.prog 119 1 = some 1 := by kernel_rfl
theorem fld119_2 : fldF Tryd.prog 119 2 = some 2 := by kernel_rfl
theorem pl119 (w : World) : (placesRun Tryd.prog 119).run Tryd.prog w = .ok #[(0, 1), (1, 1), (2, 1)] w := by kernel_rfl
end Go.Sl
namespace Go.Sl
open Go.Proofs
theorem ty122 : tyF Tryd.prog 122 = some (1, false, 24, [.slice none 0 0]) := by kernel_rfl
theorem ty124 : tyF Tryd.prog 124 = some (4, true, 48, [I64 (0), I64 (0), I64 (0), .slice none 0 0]) := by kernel_rfl
theorem fld124_0 : fldF Tryd.prog 124 0 = some 0 := by kernel_rfl
theorem fld124_1 : fldF Tryd.prog 124 1 = some 1 := by kernel_rfl
theorem fld124_2 : fldF Tryd.prog 124 2 = some 2 := by kernel_rfl
theorem fld124_3 : fldF Tryd.prog 124 3 = some 3 := by kernel_rfl
theorem pl124 (w : World) : (placesRun Tryd.prog 124).run Tryd.prog w = .ok #[(0, 1), (1, 1), (2, 1), (3, 1)] w := by kernel_rfl
theorem ty129 : tyF Tryd.prog 129 = some (1, false, 24, [.slice none 0 0]) := by kernel_rfl
theorem ty161 : tyF Tryd.prog 161 = some (3, true, 24, [I64 (0), I64 (0), I64 (0)]) := by kernel_rfl
theorem fld161_0 : fldF Tryd.prog 161 0 = some 0 := by kernel_rfl
theorem fld161_1 : fldF Tryd.prog 161 1 = some 1 := by kernel_rfl
theorem fld161_2 : fldF Tryd.prog 161 2 = some 2 := by kernel_rfl
theorem pl161 (w : World) : (placesRun Tryd.prog 161).run Tryd.prog w = .ok #[(0, 1), (1, 1), (2, 1)] w := by kernel_rfl
theorem ty165 : tyF Tryd.prog 165 = some (1, false, 8, [.nilFunc]) := by kernel_rfl
theorem ty191 : tyF Tryd.prog 191 = some (4, true, 32, [I64 (0), I64 (0), I64 (0), I64 (0)]) := by kernel_rfl
theorem fld191_0 : fldF Tryd.prog 191 0 = some 0 := by kernel_rfl
theorem fld191_1 : fldF Tryd.prog 191 1 = some 3 := by kernel_rfl
theorem pl191 (w : World) : (placesRun Tryd.prog 191).run Tryd.prog w = .ok #[(0, 3), (3, 1)] w := by kernel_rfl
theorem ty192 : tyF Tryd.prog 192 = some (1, false, 24, [.slice none 0 0]) := by kernel_rfl
theorem ty194 : tyF Tryd.prog 194 = some (5, true, 104, [.slice none 0 0, .slice none 0 0, .slice none 0 0, .slice none 0 0, I64 (0)]) := by kernel_rfl
theorem fld194_0 : fldF Tryd.prog 194 0 = some 0 := by kernel_rfl
theorem fld194_1 : fldF Tryd.prog 194 1 = some 1 := by kernel_rfl
theorem fld194_2 : fldF Tryd.prog 194 2 = some 2 := by kernel_rfl
theorem fld194_3 : fldF Tryd.prog 194 3 = some 3 := by kernel_rfl
theorem fld194_4 : fldF Tryd.prog 194 4 = some 4 := by kernel_rfl
theorem pl194 (w : World) : (placesRun Tryd.prog 194).run Tryd.prog w = .ok #[(0, 1), (1, 1), (2, 1), (3, 1), (4, 1)] w := by kernel_rfl
end Go.Sl
namespace Go.Sl
open Go.Proofs
theorem call12 : callable Tryd.prog 12 = true := by kernel_rfl
theorem call13 : callable Tryd.prog 13 = true := by kernel_rfl
theorem call18 : callable Tryd.prog 18 = true := by kernel_rfl
theorem call19 : callable Tryd.prog 19 = true := by kernel_rfl
theorem call22 : callable Tryd.prog 22 = true := by kernel_rfl
theorem call25 : callable Tryd.prog 25 = true := by kernel_rfl
theorem call26 : callable Tryd.prog 26 = true := by kernel_rfl
theorem call27 : callable Tryd.prog 27 = true := by kernel_rfl
theorem call29 : callable Tryd.prog 29 = true := by kernel_rfl
theorem call34 : callable Tryd.prog 34 = true := by kernel_rfl
theorem call38 : callable Tryd.prog 38 = true := by kernel_rfl
theorem call42 : callable Tryd.prog 42 = true := by kernel_rfl
theorem call44 : callable Tryd.prog 44 = true := by kernel_rfl
theorem call46 : callable Tryd.prog 46 = true := by kernel_rfl
theorem call49 : callable Tryd.prog 49 = true := by kernel_rfl
theorem call50 : callable Tryd.prog 50 = true := by kernel_rfl
theorem call54 : callable Tryd.prog 54 = true := by kernel_rfl
theorem call55 : callable Tryd.prog 55 = true := by kernel_rfl
theorem call56 : callable Tryd.prog 56 = true := by kernel_rfl
theorem call57 : callable Tryd.prog 57 = true := by kernel_rfl
theorem call58 : callable Tryd.prog 58 = true := by kernel_rfl
theorem call66 : callable Tryd.prog 66 = true := by kernel_rfl
theorem call68 : callable Tryd.prog 68 = true := by kernel_rfl
theorem call69 : callable Tryd.prog 69 = true := by kernel_rfl
theorem call70 : callable Tryd.prog 70 = true := by kernel_rfl
theorem call72 : callable Tryd.prog 72 = true := by kernel_rfl
theorem call74 : callable Tryd.prog 74 = true := by kernel_rfl
theorem call75 : callable Tryd.prog 75 = true := by kernel_rfl
theorem call76 : callable Tryd.prog 76 = true := by kernel_rfl
theorem call77 : callable Tryd.prog 77 = true := by kernel_rfl
theorem call78 : callable Tryd.prog 78 = true := by kernel_rfl
theorem call79 : callable Tryd.prog 79 = true := by kernel_rfl
theorem call83 : callable Tryd.prog 83 = true := by kernel_rfl
theorem call86 : callable Tryd.prog 86 = true := by kernel_rfl
theorem call87 : callable Tryd.prog 87 = true := by kernel_rfl
theorem call88 : callable Tryd.prog 88 = true := by kernel_rfl
end Go.Sl
namespace Go.Sl
open Go.Proofs
theorem call91 : callable Tryd.prog 91 = true := by kernel_rfl
theorem call92 : callable Tryd.prog 92 = true := by kernel_rfl
theorem call95 : callable Tryd.prog 95 = true := by kernel_rfl
theorem call96 : callable Tryd.prog 96 = true := by kernel_rfl
theorem call97 : callable Tryd.prog 97 = true := by kernel_rfl
theorem call98 : callable Tryd.prog 98 = true := by kernel_rfl
theorem call99 : callable Tryd.prog 99 = true := by kernel_rfl
theorem call106 : callable Tryd.prog 106 = true := by kernel_rfl
theorem call110 : callable Tryd.prog 110 = true := by kernel_rfl
theorem call119 : callable Tryd.prog 119 = true := by kernel_rfl
theorem call123 : callable Tryd.prog 123 = true := by kernel_rfl
theorem call124 : callable Tryd.prog 124 = true := by kernel_rfl
theorem call125 : callable Tryd.prog 125 = true := by kernel_rfl
theorem call126 : callable Tryd.prog 126 = true := by kernel_rfl
theorem call127 : callable Tryd.prog 127 = true := by kernel_rfl
theorem call128 : callable Tryd.prog 128 = true := by kernel_rfl
theorem call129 : callable Tryd.prog 129 = true := by kernel_rfl
theorem call130 : callable Tryd.prog 130 = true := by kernel_rfl
theorem call131 : callable Tryd.prog 131 = true := by kernel_rfl
theorem call133 : callable Tryd.prog 133 = true := by kernel_rfl
theorem call139 : callable Tryd.prog 139 = true := by kernel_rfl
theorem call140 : callable Tryd.prog 140 = true := by kernel_rfl
theorem call147 : callable Tryd.prog 147 = true := by kernel_rfl
theorem call151 : callable Tryd.prog 151 = true := by kernel_rfl
theorem call152 : callable Tryd.prog 152 = true := by kernel_rfl
theorem call153 : callable Tryd.prog 153 = true := by kernel_rfl
theorem call154 : callable Tryd.prog 154 = true := by kernel_rfl
theorem call166 : callable Tryd.prog 166 = true := by kernel_rfl
theorem call185 : callable Tryd.prog 185 = true := by kernel_rfl
theorem call186 : callable Tryd.prog 186 = true := by kernel_rfl
theorem call187 : callable Tryd.prog 187 = true := by kernel_rfl
theorem call212 : callable Tryd.prog 212 = true := by kernel_rfl
theorem call213 : callable Tryd.prog 213 = true := by kernel_rfl
theorem mixed : Tryd.prog.follows .mixedOrders = true := by kernel_rfl
end Go.Sl

