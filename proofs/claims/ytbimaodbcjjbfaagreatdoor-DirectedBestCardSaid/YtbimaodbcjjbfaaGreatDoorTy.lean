/- A part of the proofs of statements of this seat: contracts of functions, and the plain laws that they lean on. No conditions. -/
import Derived.Test.YtbimaodbcjjbfaaGreatDoorLib
import Derived.Test.YtbimaodbcjjbfaaGreatDoorProg
import Derived.KernelRfl
namespace Go.Sl
open Go.Proofs
theorem ty2 : tyF Tryz.prog 2 = some (1, false, 8, [I64 (0)]) := by kernel_rfl
theorem ty3 : tyF Tryz.prog 3 = some (1, false, 8, [I64 (0)]) := by kernel_rfl
theorem ty5 : tyF Tryz.prog 5 = some (1, false, 1, [.int .u8 (0)]) := by kernel_rfl
theorem ty22 : tyF Tryz.prog 22 = some (1, false, 24, [.slice none 0 0]) := by kernel_rfl
theorem ty32 : tyF Tryz.prog 32 = some (2, true, 16, [I64 (0), I64 (0)]) := by kernel_rfl
theorem ty33 : tyF Tryz.prog 33 = some (1, false, 24, [.slice none 0 0]) := by kernel_rfl
theorem ty45 : tyF Tryz.prog 45 = some (2, true, 16, [I64 (0), I64 (0)]) := by kernel_rfl
theorem fld45_0 : fldF Tryz.prog 45 0 = some 0 := by kernel_rfl
theorem fld45_1 : fldF Tryz.prog 45 1 = some 1 := by kernel_rfl
theorem pl45 (w : World) : (placesRun Tryz.prog 45).run Tryz.prog w = .ok #[(0, 1), (1, 1)] w := by kernel_rfl
theorem ty54 : tyF Tryz.prog 54 = some (2, true, 32, [I64 (0), .slice none 0 0]) := by kernel_rfl
theorem fld54_0 : fldF Tryz.prog 54 0 = some 0 := by kernel_rfl
theorem fld54_1 : fldF Tryz.prog 54 1 = some 1 := by kernel_rfl
theorem pl54 (w : World) : (placesRun Tryz.prog 54).run Tryz.prog w = .ok #[(0, 1), (1, 1)] w := by kernel_rfl
theorem ty58 : tyF Tryz.prog 58 = some (5, true, 72, [.slice none 0 0, .slice none 0 0, I64 (0), I64 (0), I64 (0)]) := by kernel_rfl
theorem fld58_0 : fldF Tryz.prog 58 0 = some 0 := by kernel_rfl
theorem fld58_1 : fldF Tryz.prog 58 1 = some 1 := by kernel_rfl
theorem fld58_2 : fldF Tryz.prog 58 2 = some 2 := by kernel_rfl
theorem fld58_3 : fldF Tryz.prog 58 3 = some 3 := by kernel_rfl
theorem pl58 (w : World) : (placesRun Tryz.prog 58).run Tryz.prog w = .ok #[(0, 1), (1, 1), (2, 1), (3, 2)] w := by kernel_rfl
theorem ty79 : tyF Tryz.prog 79 = some (2, true, 32, [.slice none 0 0, I64 (0)]) := by kernel_rfl
end Go.Sl
namespace Go.Sl
open Go.Proofs
theorem fld79_0 : fldF Tryz.prog 79 0 = some 0 := by kernel_rfl
theorem fld79_1 : fldF Tryz.prog 79 1 = some 1 := by kernel_rfl
theorem pl79 (w : World) : (placesRun Tryz.prog 79).run Tryz.prog w = .ok #[(0, 1), (1, 1)] w := by kernel_rfl
theorem ty86 : tyF Tryz.prog 86 = some (1, false, 8, [.int .u64 (0)]) := by kernel_rfl
theorem ty104 : tyF Tryz.prog 104 = some (1, false, 24, [.slice none 0 0]) := by kernel_rfl
theorem ty111 : tyF Tryz.prog 111 = some (2, true, 16, [.int .u64 (0), .int .u64 (0)]) := by kernel_rfl
theorem fld111_0 : fldF Tryz.prog 111 0 = some 0 := by kernel_rfl
theorem fld111_1 : fldF Tryz.prog 111 1 = some 1 := by kernel_rfl
theorem pl111 (w : World) : (placesRun Tryz.prog 111).run Tryz.prog w = .ok #[(0, 1), (1, 1)] w := by kernel_rfl
theorem ty138 : tyF Tryz.prog 138 = some (64, true, 512, [I64 (0), I64 (0), I64 (0), I64 (0), I64 (0), I64 (0), I64 (0), I64 (0), I64 (0), I64 (0), I64 (0), I64 (0), I64 (0), I64 (0), I64 (0), I64 (0), I64 (0), I64 (0), I64 (0), I64 (0), I64 (0), I64 (0), I64 (0), I64 (0), I64 (0), I64 (0), I64 (0), I64 (0), I64 (0), I64 (0), I64 (0), I64 (0), I64 (0), I64 (0), I64 (0), I64 (0), I64 (0), I64 (0), I64 (0), I64 (0), I64 (0), I64 (0), I64 (0), I64 (0), I64 (0), I64 (0), I64 (0), I64 (0), I64 (0), I64 (0), I64 (0), I64 (0), I64 (0), I64 (0), I64 (0), I64 (0), I64 (0), I64 (0), I64 (0), I64 (0), I64 (0), I64 (0), I64 (0), I64 (0)]) := by kernel_rfl
end Go.Sl
namespace Go.Sl
open Go.Proofs
theorem call8 : callable Tryz.prog 8 = true := by kernel_rfl
theorem call10 : callable Tryz.prog 10 = true := by kernel_rfl
theorem call14 : callable Tryz.prog 14 = true := by kernel_rfl
theorem call29 : callable Tryz.prog 29 = true := by kernel_rfl
theorem call30 : callable Tryz.prog 30 = true := by kernel_rfl
theorem call32 : callable Tryz.prog 32 = true := by kernel_rfl
theorem call33 : callable Tryz.prog 33 = true := by kernel_rfl
theorem call34 : callable Tryz.prog 34 = true := by kernel_rfl
theorem call36 : callable Tryz.prog 36 = true := by kernel_rfl
theorem call37 : callable Tryz.prog 37 = true := by kernel_rfl
theorem call38 : callable Tryz.prog 38 = true := by kernel_rfl
theorem call39 : callable Tryz.prog 39 = true := by kernel_rfl
theorem call40 : callable Tryz.prog 40 = true := by kernel_rfl
theorem call41 : callable Tryz.prog 41 = true := by kernel_rfl
theorem call42 : callable Tryz.prog 42 = true := by kernel_rfl
theorem call43 : callable Tryz.prog 43 = true := by kernel_rfl
theorem call44 : callable Tryz.prog 44 = true := by kernel_rfl
theorem call45 : callable Tryz.prog 45 = true := by kernel_rfl
theorem call50 : callable Tryz.prog 50 = true := by kernel_rfl
theorem call53 : callable Tryz.prog 53 = true := by kernel_rfl
theorem call54 : callable Tryz.prog 54 = true := by kernel_rfl
theorem call56 : callable Tryz.prog 56 = true := by kernel_rfl
theorem call57 : callable Tryz.prog 57 = true := by kernel_rfl
theorem call60 : callable Tryz.prog 60 = true := by kernel_rfl
theorem call62 : callable Tryz.prog 62 = true := by kernel_rfl
theorem call63 : callable Tryz.prog 63 = true := by kernel_rfl
theorem call66 : callable Tryz.prog 66 = true := by kernel_rfl
theorem call67 : callable Tryz.prog 67 = true := by kernel_rfl
theorem call68 : callable Tryz.prog 68 = true := by kernel_rfl
theorem call69 : callable Tryz.prog 69 = true := by kernel_rfl
theorem call70 : callable Tryz.prog 70 = true := by kernel_rfl
theorem call72 : callable Tryz.prog 72 = true := by kernel_rfl
theorem call73 : callable Tryz.prog 73 = true := by kernel_rfl
theorem call74 : callable Tryz.prog 74 = true := by kernel_rfl
theorem call75 : callable Tryz.prog 75 = true := by kernel_rfl
theorem call76 : callable Tryz.prog 76 = true := by kernel_rfl
theorem call77 : callable Tryz.prog 77 = true := by kernel_rfl
theorem call78 : callable Tryz.prog 78 = true := by kernel_rfl
end Go.Sl
namespace Go.Sl
open Go.Proofs
theorem call79 : callable Tryz.prog 79 = true := by kernel_rfl
theorem call81 : callable Tryz.prog 81 = true := by kernel_rfl
theorem call82 : callable Tryz.prog 82 = true := by kernel_rfl
theorem call83 : callable Tryz.prog 83 = true := by kernel_rfl
theorem call84 : callable Tryz.prog 84 = true := by kernel_rfl
theorem call85 : callable Tryz.prog 85 = true := by kernel_rfl
theorem call86 : callable Tryz.prog 86 = true := by kernel_rfl
theorem call87 : callable Tryz.prog 87 = true := by kernel_rfl
theorem call89 : callable Tryz.prog 89 = true := by kernel_rfl
theorem call90 : callable Tryz.prog 90 = true := by kernel_rfl
theorem call91 : callable Tryz.prog 91 = true := by kernel_rfl
theorem call92 : callable Tryz.prog 92 = true := by kernel_rfl
theorem call93 : callable Tryz.prog 93 = true := by kernel_rfl
theorem call94 : callable Tryz.prog 94 = true := by kernel_rfl
theorem call95 : callable Tryz.prog 95 = true := by kernel_rfl
theorem call96 : callable Tryz.prog 96 = true := by kernel_rfl
theorem call97 : callable Tryz.prog 97 = true := by kernel_rfl
theorem call98 : callable Tryz.prog 98 = true := by kernel_rfl
theorem call99 : callable Tryz.prog 99 = true := by kernel_rfl
theorem call100 : callable Tryz.prog 100 = true := by kernel_rfl
theorem call101 : callable Tryz.prog 101 = true := by kernel_rfl
theorem call103 : callable Tryz.prog 103 = true := by kernel_rfl
theorem call104 : callable Tryz.prog 104 = true := by kernel_rfl
theorem call110 : callable Tryz.prog 110 = true := by kernel_rfl
theorem call112 : callable Tryz.prog 112 = true := by kernel_rfl
theorem call113 : callable Tryz.prog 113 = true := by kernel_rfl
theorem call114 : callable Tryz.prog 114 = true := by kernel_rfl
theorem call115 : callable Tryz.prog 115 = true := by kernel_rfl
theorem call118 : callable Tryz.prog 118 = true := by kernel_rfl
theorem call121 : callable Tryz.prog 121 = true := by kernel_rfl
theorem call122 : callable Tryz.prog 122 = true := by kernel_rfl
theorem call123 : callable Tryz.prog 123 = true := by kernel_rfl
theorem call124 : callable Tryz.prog 124 = true := by kernel_rfl
theorem call125 : callable Tryz.prog 125 = true := by kernel_rfl
theorem call126 : callable Tryz.prog 126 = true := by kernel_rfl
theorem call127 : callable Tryz.prog 127 = true := by kernel_rfl
theorem call128 : callable Tryz.prog 128 = true := by kernel_rfl
theorem call129 : callable Tryz.prog 129 = true := by kernel_rfl
theorem call130 : callable Tryz.prog 130 = true := by kernel_rfl
theorem call133 : callable Tryz.prog 133 = true := by kernel_rfl
theorem call134 : callable Tryz.prog 134 = true := by kernel_rfl
theorem call149 : callable Tryz.prog 149 = true := by kernel_rfl
theorem call150 : callable Tryz.prog 150 = true := by kernel_rfl
theorem call151 : callable Tryz.prog 151 = true := by kernel_rfl
theorem call152 : callable Tryz.prog 152 = true := by kernel_rfl
theorem call172 : callable Tryz.prog 172 = true := by kernel_rfl
theorem mixed : Tryz.prog.follows .mixedOrders = true := by kernel_rfl
end Go.Sl

