/- A part of the proofs of statements of this seat: contracts of functions, and the plain laws that they lean on. No conditions. -/
import Derived.Test.YtbimaodbcjjbfaaGreatDoorLib
import Derived.Test.YtbimaodbcjjbfaaGreatDoorProg
import Derived.KernelRfl
namespace Go.Sl
open Go.Proofs
theorem ty2 : tyF Tryz.prog 2 = some (1, false, 8, [I64 (0)]) := by kernel_rfl
theorem ty3 : tyF Tryz.prog 3 = some (1, false, 8, [I64 (0)]) := by kernel_rfl
theorem ty5 : tyF Tryz.prog 5 = some (1, false, 1, [.int .u8 (0)]) := by kernel_rfl
theorem ty22 : tyF Tryz.prog 22 = some (1, false, 24, [.slice none 0 0]) := by kernel_rfl
theorem ty26 : tyF Tryz.prog 26 = some (1, false, 24, [.slice none 0 0]) := by kernel_rfl
theorem ty28 : tyF Tryz.prog 28 = some (2, true, 32, [I64 (0), .slice none 0 0]) := by kernel_rfl
theorem fld28_0 : fldF Tryz.prog 28 0 = some 0 := by kernel_rfl
theorem fld28_1 : fldF Tryz.prog 28 1 = some 1 := by kernel_rfl
theorem pl28 (w : World) : (placesRun Tryz.prog 28).run Tryz.prog w = .ok #[(0, 1), (1, 1)] w := by kernel_rfl
theorem ty32 : tyF Tryz.prog 32 = some (2, true, 16, [I64 (0), I64 (0)]) := by kernel_rfl
theorem ty45 : tyF Tryz.prog 45 = some (2, true, 16, [I64 (0), I64 (0)]) := by kernel_rfl
theorem fld45_0 : fldF Tryz.prog 45 0 = some 0 := by kernel_rfl
theorem fld45_1 : fldF Tryz.prog 45 1 = some 1 := by kernel_rfl
theorem pl45 (w : World) : (placesRun Tryz.prog 45).run Tryz.prog w = .ok #[(0, 1), (1, 1)] w := by kernel_rfl
theorem ty52 : tyF Tryz.prog 52 = some (2, true, 16, [I64 (0), I64 (0)]) := by kernel_rfl
theorem fld52_0 : fldF Tryz.prog 52 0 = some 0 := by kernel_rfl
theorem fld52_1 : fldF Tryz.prog 52 1 = some 1 := by kernel_rfl
theorem pl52 (w : World) : (placesRun Tryz.prog 52).run Tryz.prog w = .ok #[(0, 1), (1, 1)] w := by kernel_rfl
theorem ty79 : tyF Tryz.prog 79 = some (2, true, 32, [.slice none 0 0, I64 (0)]) := by kernel_rfl
end Go.Sl
namespace Go.Sl
open Go.Proofs
theorem fld79_0 : fldF Tryz.prog 79 0 = some 0 := by kernel_rfl
theorem fld79_1 : fldF Tryz.prog 79 1 = some 1 := by kernel_rfl
theorem pl79 (w : World) : (placesRun Tryz.prog 79).run Tryz.prog w = .ok #[(0, 1), (1, 1)] w := by kernel_rfl
theorem ty86 : tyF Tryz.prog 86 = some (1, false, 8, [.int .u64 (0)]) := by kernel_rfl
theorem ty111 : tyF Tryz.prog 111 = some (2, true, 16, [.int .u64 (0), .int .u64 (0)]) := by kernel_rfl
theorem fld111_0 : fldF Tryz.prog 111 0 = some 0 := by kernel_rfl
theorem fld111_1 : fldF Tryz.prog 111 1 = some 1 := by kernel_rfl
theorem pl111 (w : World) : (placesRun Tryz.prog 111).run Tryz.prog w = .ok #[(0, 1), (1, 1)] w := by kernel_rfl
end Go.Sl
namespace Go.Sl
open Go.Proofs
theorem call7 : callable Tryz.prog 7 = true := by kernel_rfl
theorem call8 : callable Tryz.prog 8 = true := by kernel_rfl
theorem call9 : callable Tryz.prog 9 = true := by kernel_rfl
theorem call10 : callable Tryz.prog 10 = true := by kernel_rfl
theorem call11 : callable Tryz.prog 11 = true := by kernel_rfl
theorem call12 : callable Tryz.prog 12 = true := by kernel_rfl
theorem call13 : callable Tryz.prog 13 = true := by kernel_rfl
theorem call14 : callable Tryz.prog 14 = true := by kernel_rfl
theorem call15 : callable Tryz.prog 15 = true := by kernel_rfl
theorem call16 : callable Tryz.prog 16 = true := by kernel_rfl
theorem call17 : callable Tryz.prog 17 = true := by kernel_rfl
theorem call18 : callable Tryz.prog 18 = true := by kernel_rfl
theorem call19 : callable Tryz.prog 19 = true := by kernel_rfl
theorem call20 : callable Tryz.prog 20 = true := by kernel_rfl
theorem call21 : callable Tryz.prog 21 = true := by kernel_rfl
theorem call22 : callable Tryz.prog 22 = true := by kernel_rfl
theorem call23 : callable Tryz.prog 23 = true := by kernel_rfl
theorem call24 : callable Tryz.prog 24 = true := by kernel_rfl
theorem call25 : callable Tryz.prog 25 = true := by kernel_rfl
theorem call26 : callable Tryz.prog 26 = true := by kernel_rfl
theorem call27 : callable Tryz.prog 27 = true := by kernel_rfl
theorem call28 : callable Tryz.prog 28 = true := by kernel_rfl
theorem call34 : callable Tryz.prog 34 = true := by kernel_rfl
theorem call35 : callable Tryz.prog 35 = true := by kernel_rfl
theorem call48 : callable Tryz.prog 48 = true := by kernel_rfl
theorem call49 : callable Tryz.prog 49 = true := by kernel_rfl
theorem call50 : callable Tryz.prog 50 = true := by kernel_rfl
theorem call51 : callable Tryz.prog 51 = true := by kernel_rfl
theorem call52 : callable Tryz.prog 52 = true := by kernel_rfl
theorem call53 : callable Tryz.prog 53 = true := by kernel_rfl
theorem call54 : callable Tryz.prog 54 = true := by kernel_rfl
theorem call55 : callable Tryz.prog 55 = true := by kernel_rfl
theorem call56 : callable Tryz.prog 56 = true := by kernel_rfl
theorem call57 : callable Tryz.prog 57 = true := by kernel_rfl
theorem call58 : callable Tryz.prog 58 = true := by kernel_rfl
theorem call59 : callable Tryz.prog 59 = true := by kernel_rfl
theorem call60 : callable Tryz.prog 60 = true := by kernel_rfl
theorem call61 : callable Tryz.prog 61 = true := by kernel_rfl
theorem call62 : callable Tryz.prog 62 = true := by kernel_rfl
theorem call63 : callable Tryz.prog 63 = true := by kernel_rfl
theorem call64 : callable Tryz.prog 64 = true := by kernel_rfl
theorem call65 : callable Tryz.prog 65 = true := by kernel_rfl
theorem call68 : callable Tryz.prog 68 = true := by kernel_rfl
theorem call75 : callable Tryz.prog 75 = true := by kernel_rfl
end Go.Sl
namespace Go.Sl
open Go.Proofs
theorem call83 : callable Tryz.prog 83 = true := by kernel_rfl
theorem call84 : callable Tryz.prog 84 = true := by kernel_rfl
theorem call86 : callable Tryz.prog 86 = true := by kernel_rfl
theorem call87 : callable Tryz.prog 87 = true := by kernel_rfl
theorem call88 : callable Tryz.prog 88 = true := by kernel_rfl
theorem call105 : callable Tryz.prog 105 = true := by kernel_rfl
theorem call106 : callable Tryz.prog 106 = true := by kernel_rfl
theorem call107 : callable Tryz.prog 107 = true := by kernel_rfl
theorem call108 : callable Tryz.prog 108 = true := by kernel_rfl
theorem call109 : callable Tryz.prog 109 = true := by kernel_rfl
theorem call110 : callable Tryz.prog 110 = true := by kernel_rfl
theorem call111 : callable Tryz.prog 111 = true := by kernel_rfl
theorem call112 : callable Tryz.prog 112 = true := by kernel_rfl
theorem call113 : callable Tryz.prog 113 = true := by kernel_rfl
theorem call114 : callable Tryz.prog 114 = true := by kernel_rfl
theorem call115 : callable Tryz.prog 115 = true := by kernel_rfl
theorem call121 : callable Tryz.prog 121 = true := by kernel_rfl
theorem call125 : callable Tryz.prog 125 = true := by kernel_rfl
theorem call126 : callable Tryz.prog 126 = true := by kernel_rfl
theorem call132 : callable Tryz.prog 132 = true := by kernel_rfl
theorem call133 : callable Tryz.prog 133 = true := by kernel_rfl
theorem call134 : callable Tryz.prog 134 = true := by kernel_rfl
theorem call149 : callable Tryz.prog 149 = true := by kernel_rfl
theorem call151 : callable Tryz.prog 151 = true := by kernel_rfl
theorem call152 : callable Tryz.prog 152 = true := by kernel_rfl
theorem mixed : Tryz.prog.follows .mixedOrders = true := by kernel_rfl
end Go.Sl

