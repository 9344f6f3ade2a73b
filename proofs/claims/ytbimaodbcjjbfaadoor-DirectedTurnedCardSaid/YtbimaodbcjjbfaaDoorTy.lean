/- A part of the proofs of statements of this seat: contracts of functions, and the plain laws that they lean on. No conditions. -/
import Derived.Test.YtbimaodbcjjbfaaDoorLib
import Derived.Test.YtbimaodbcjjbfaaDoorProg
import Derived.KernelRfl
namespace Go.Sl
open Go.Proofs
theorem ty2 : tyF Tryd.prog 2 = some (1, false, 8, [I64 (0)]) := by kernel_rfl
theorem ty3 : tyF Tryd.prog 3 = some (1, false, 8, [I64 (0)]) := by kernel_rfl
theorem ty5 : tyF Tryd.prog 5 = some (1, false, 1, [.int .u8 (0)]) := by kernel_rfl
theorem ty22 : tyF Tryd.prog 22 = some (1, false, 24, [.slice none 0 0]) := by kernel_rfl
theorem ty63 : tyF Tryd.prog 63 = some (2, true, 16, [I64 (0), I64 (0)]) := by kernel_rfl
theorem ty64 : tyF Tryd.prog 64 = some (1, false, 24, [.slice none 0 0]) := by kernel_rfl
theorem ty83 : tyF Tryd.prog 83 = some (2, true, 32, [I64 (0), .slice none 0 0]) := by kernel_rfl
theorem fld83_0 : fldF Tryd.prog 83 0 = some 0 := by kernel_rfl
theorem fld83_1 : fldF Tryd.prog 83 1 = some 1 := by kernel_rfl
theorem pl83 (w : World) : (placesRun Tryd.prog 83).run Tryd.prog w = .ok #[(0, 1), (1, 1)] w := by kernel_rfl
theorem ty88 : tyF Tryd.prog 88 = some (2, true, 16, [I64 (0), I64 (0)]) := by kernel_rfl
theorem fld88_0 : fldF Tryd.prog 88 0 = some 0 := by kernel_rfl
theorem fld88_1 : fldF Tryd.prog 88 1 = some 1 := by kernel_rfl
theorem pl88 (w : World) : (placesRun Tryd.prog 88).run Tryd.prog w = .ok #[(0, 1), (1, 1)] w := by kernel_rfl
theorem ty90 : tyF Tryd.prog 90 = some (5, true, 72, [.slice none 0 0, .slice none 0 0, I64 (0), I64 (0), I64 (0)]) := by kernel_rfl
theorem fld90_0 : fldF Tryd.prog 90 0 = some 0 := by kernel_rfl
theorem fld90_1 : fldF Tryd.prog 90 1 = some 1 := by kernel_rfl
theorem fld90_2 : fldF Tryd.prog 90 2 = some 2 := by kernel_rfl
theorem fld90_3 : fldF Tryd.prog 90 3 = some 3 := by kernel_rfl
theorem pl90 (w : World) : (placesRun Tryd.prog 90).run Tryd.prog w = .ok #[(0, 1), (1, 1), (2, 1), (3, 2)] w := by kernel_rfl
theorem ty96 : tyF Tryd.prog 96 = some (2, true, 32, [.slice none 0 0, I64 (0)]) := by kernel_rfl
theorem fld96_0 : fldF Tryd.prog 96 0 = some 0 := by kernel_rfl
theorem fld96_1 : fldF Tryd.prog 96 1 = some 1 := by kernel_rfl
theorem pl96 (w : World) : (placesRun Tryd.prog 96).run Tryd.prog w = .ok #[(0, 1), (1, 1)] w := by kernel_rfl
theorem ty99 : tyF Tryd.prog 99 = some (1, false, 8, [.int .u64 (0)]) := by kernel_rfl
end Go.Sl
namespace Go.Sl
open Go.Proofs
theorem ty147 : tyF Tryd.prog 147 = some (2, true, 16, [.int .u64 (0), .int .u64 (0)]) := by kernel_rfl
theorem fld147_0 : fldF Tryd.prog 147 0 = some 0 := by kernel_rfl
theorem fld147_1 : fldF Tryd.prog 147 1 = some 1 := by kernel_rfl
theorem pl147 (w : World) : (placesRun Tryd.prog 147).run Tryd.prog w = .ok #[(0, 1), (1, 1)] w := by kernel_rfl
theorem ty174 : tyF Tryd.prog 174 = some (64, true, 512, [I64 (0), I64 (0), I64 (0), I64 (0), I64 (0), I64 (0), I64 (0), I64 (0), I64 (0), I64 (0), I64 (0), I64 (0), I64 (0), I64 (0), I64 (0), I64 (0), I64 (0), I64 (0), I64 (0), I64 (0), I64 (0), I64 (0), I64 (0), I64 (0), I64 (0), I64 (0), I64 (0), I64 (0), I64 (0), I64 (0), I64 (0), I64 (0), I64 (0), I64 (0), I64 (0), I64 (0), I64 (0), I64 (0), I64 (0), I64 (0), I64 (0), I64 (0), I64 (0), I64 (0), I64 (0), I64 (0), I64 (0), I64 (0), I64 (0), I64 (0), I64 (0), I64 (0), I64 (0), I64 (0), I64 (0), I64 (0), I64 (0), I64 (0), I64 (0), I64 (0), I64 (0), I64 (0), I64 (0), I64 (0)]) := by kernel_rfl
end Go.Sl
namespace Go.Sl
open Go.Proofs
theorem call13 : callable Tryd.prog 13 = true := by kernel_rfl
theorem call22 : callable Tryd.prog 22 = true := by kernel_rfl
theorem call27 : callable Tryd.prog 27 = true := by kernel_rfl
theorem call54 : callable Tryd.prog 54 = true := by kernel_rfl
theorem call60 : callable Tryd.prog 60 = true := by kernel_rfl
theorem call61 : callable Tryd.prog 61 = true := by kernel_rfl
theorem call62 : callable Tryd.prog 62 = true := by kernel_rfl
theorem call63 : callable Tryd.prog 63 = true := by kernel_rfl
theorem call64 : callable Tryd.prog 64 = true := by kernel_rfl
theorem call65 : callable Tryd.prog 65 = true := by kernel_rfl
theorem call68 : callable Tryd.prog 68 = true := by kernel_rfl
theorem call69 : callable Tryd.prog 69 = true := by kernel_rfl
theorem call77 : callable Tryd.prog 77 = true := by kernel_rfl
theorem call78 : callable Tryd.prog 78 = true := by kernel_rfl
theorem call87 : callable Tryd.prog 87 = true := by kernel_rfl
end Go.Sl
namespace Go.Sl
open Go.Proofs
theorem call100 : callable Tryd.prog 100 = true := by kernel_rfl
theorem call101 : callable Tryd.prog 101 = true := by kernel_rfl
theorem call102 : callable Tryd.prog 102 = true := by kernel_rfl
theorem call103 : callable Tryd.prog 103 = true := by kernel_rfl
theorem call104 : callable Tryd.prog 104 = true := by kernel_rfl
theorem call106 : callable Tryd.prog 106 = true := by kernel_rfl
theorem call107 : callable Tryd.prog 107 = true := by kernel_rfl
theorem call108 : callable Tryd.prog 108 = true := by kernel_rfl
theorem call109 : callable Tryd.prog 109 = true := by kernel_rfl
theorem call110 : callable Tryd.prog 110 = true := by kernel_rfl
theorem call111 : callable Tryd.prog 111 = true := by kernel_rfl
theorem call112 : callable Tryd.prog 112 = true := by kernel_rfl
theorem call113 : callable Tryd.prog 113 = true := by kernel_rfl
theorem call114 : callable Tryd.prog 114 = true := by kernel_rfl
theorem call115 : callable Tryd.prog 115 = true := by kernel_rfl
theorem call116 : callable Tryd.prog 116 = true := by kernel_rfl
theorem call117 : callable Tryd.prog 117 = true := by kernel_rfl
theorem call118 : callable Tryd.prog 118 = true := by kernel_rfl
theorem call123 : callable Tryd.prog 123 = true := by kernel_rfl
theorem call132 : callable Tryd.prog 132 = true := by kernel_rfl
theorem call134 : callable Tryd.prog 134 = true := by kernel_rfl
theorem call135 : callable Tryd.prog 135 = true := by kernel_rfl
theorem call136 : callable Tryd.prog 136 = true := by kernel_rfl
theorem call139 : callable Tryd.prog 139 = true := by kernel_rfl
theorem call140 : callable Tryd.prog 140 = true := by kernel_rfl
theorem call141 : callable Tryd.prog 141 = true := by kernel_rfl
theorem call142 : callable Tryd.prog 142 = true := by kernel_rfl
theorem call143 : callable Tryd.prog 143 = true := by kernel_rfl
theorem call144 : callable Tryd.prog 144 = true := by kernel_rfl
theorem call145 : callable Tryd.prog 145 = true := by kernel_rfl
theorem call146 : callable Tryd.prog 146 = true := by kernel_rfl
theorem call166 : callable Tryd.prog 166 = true := by kernel_rfl
theorem call167 : callable Tryd.prog 167 = true := by kernel_rfl
theorem call168 : callable Tryd.prog 168 = true := by kernel_rfl
theorem call169 : callable Tryd.prog 169 = true := by kernel_rfl
theorem call170 : callable Tryd.prog 170 = true := by kernel_rfl
theorem call171 : callable Tryd.prog 171 = true := by kernel_rfl
theorem call172 : callable Tryd.prog 172 = true := by kernel_rfl
theorem call173 : callable Tryd.prog 173 = true := by kernel_rfl
theorem call201 : callable Tryd.prog 201 = true := by kernel_rfl
theorem call203 : callable Tryd.prog 203 = true := by kernel_rfl
theorem call204 : callable Tryd.prog 204 = true := by kernel_rfl
theorem call207 : callable Tryd.prog 207 = true := by kernel_rfl
theorem call219 : callable Tryd.prog 219 = true := by kernel_rfl
theorem mixed : Tryd.prog.follows .mixedOrders = true := by kernel_rfl
end Go.Sl

