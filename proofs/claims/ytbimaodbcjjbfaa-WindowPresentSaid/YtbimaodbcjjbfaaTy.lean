/- A part of the proofs of statements of this seat: contracts of functions, and the plain laws that they lean on. No conditions. -/
import Derived.Test.YtbimaodbcjjbfaaLib
import Derived.Test.YtbimaodbcjjbfaaProg
import Derived.KernelRfl
namespace Go.Sl
open Go.Proofs
theorem ty1 : tyF Try.prog 1 = some (1, false, 8, [.nilFunc]) := by kernel_rfl
theorem ty2 : tyF Try.prog 2 = some (1, false, 8, [I64 (0)]) := by kernel_rfl
theorem ty3 : tyF Try.prog 3 = some (1, false, 8, [I64 (0)]) := by kernel_rfl
theorem ty4 : tyF Try.prog 4 = some (1, false, 1, [.bool false]) := by kernel_rfl
theorem ty5 : tyF Try.prog 5 = some (1, false, 1, [.int .u8 (0)]) := by kernel_rfl
theorem ty7 : tyF Try.prog 7 = some (4, true, 24, [I64 (0), I64 (0), .bool false, .int .u8 (0)]) := by kernel_rfl
theorem fld7_0 : fldF Try.prog 7 0 = some 0 := by kernel_rfl
theorem fld7_1 : fldF Try.prog 7 1 = some 1 := by kernel_rfl
theorem fld7_2 : fldF Try.prog 7 2 = some 2 := by kernel_rfl
theorem fld7_3 : fldF Try.prog 7 3 = some 3 := by kernel_rfl
theorem pl7 (w : World) : (placesRun Try.prog 7).run Try.prog w = .ok #[(0, 1), (1, 1), (2, 1), (3, 1)] w := by kernel_rfl
theorem ty12 : tyF Try.prog 12 = some (1, false, 8, [.int .u64 (0)]) := by kernel_rfl
theorem ty18 : tyF Try.prog 18 = some (1, true, 8, [.pointer none]) := by kernel_rfl
theorem fld18_0 : fldF Try.prog 18 0 = some 0 := by kernel_rfl
theorem pl18 (w : World) : (placesRun Try.prog 18).run Try.prog w = .ok #[(0, 1)] w := by kernel_rfl
theorem ty21 : tyF Try.prog 21 = some (1, false, 4, [.int .i32 (0)]) := by kernel_rfl
theorem ty22 : tyF Try.prog 22 = some (1, false, 24, [.slice none 0 0]) := by kernel_rfl
theorem ty23 : tyF Try.prog 23 = some (3, true, 56, [.slice none 0 0, I64 (0), .slice none 0 0]) := by kernel_rfl
theorem fld23_0 : fldF Try.prog 23 0 = some 0 := by kernel_rfl
theorem fld23_1 : fldF Try.prog 23 1 = some 1 := by kernel_rfl
theorem fld23_2 : fldF Try.prog 23 2 = some 2 := by kernel_rfl
theorem pl23 (w : World) : (placesRun Try.prog 23).run Try.prog w = .ok #[(0, 1), (1, 1), (2, 1)] w := by kernel_rfl
theorem ty24 : tyF Try.prog 24 = some (3, true, 56, [.slice none 0 0, I64 (0), .slice none 0 0]) := by kernel_rfl
theorem fld24_0 : fldF Try.prog 24 0 = some 0 := by kernel_rfl
theorem fld24_1 : fldF Try.prog 24 1 = some 1 := by kernel_rfl
theorem fld24_2 : fldF Try.prog 24 2 = some 2 := by kernel_rfl
theorem pl24 (w : World) : (placesRun Try.prog 24).run Try.prog w = .ok #[(0, 1), (1, 1), (2, 1)] w := by kernel_rfl
theorem ty25 : tyF Try.prog 25 = some (1, false, 8, [.nilFunc]) := by kernel_rfl
theorem ty26 : tyF Try.prog 26 = some (1, false, 8, [.pointer none]) := by kernel_rfl
theorem ty27 : tyF Try.prog 27 = some (1, false, 8, [.nilFunc]) := by kernel_rfl
theorem ty28 : tyF Try.prog 28 = some (1, false, 24, [.slice none 0 0]) := by kernel_rfl
theorem ty29 : tyF Try.prog 29 = some (4, true, 48, [I64 (0), I64 (0), I64 (0), .slice none 0 0]) := by kernel_rfl
theorem fld29_0 : fldF Try.prog 29 0 = some 0 := by kernel_rfl
theorem fld29_1 : fldF Try.prog 29 1 = some 1 := by kernel_rfl
theorem fld29_2 : fldF Try.prog 29 2 = some 2 := by kernel_rfl
theorem fld29_3 : fldF Try.prog 29 3 = some 3 := by kernel_rfl
theorem pl29 (w : World) : (placesRun Try.prog 29).run Try.prog w = .ok #[(0, 1), (1, 1), (2, 1), (3, 1)] w := by kernel_rfl
theorem ty30 : tyF Try.prog 30 = some (4, true, 48, [I64 (0), I64 (0), I64 (0), .slice none 0 0]) := by kernel_rfl
theorem fld30_0 : fldF Try.prog 30 0 = some 0 := by kernel_rfl
theorem fld30_1 : fldF Try.prog 30 1 = some 1 := by kernel_rfl
theorem fld30_2 : fldF Try.prog 30 2 = some 2 := by kernel_rfl
theorem fld30_3 : fldF Try.prog 30 3 = some 3 := by kernel_rfl
theorem pl30 (w : World) : (placesRun Try.prog 30).run Try.prog w = .ok #[(0, 1), (1, 1), (2, 1), (3, 1)] w := by kernel_rfl
theorem ty31 : tyF Try.prog 31 = some (1, false, 8, [.nilFunc]) := by kernel_rfl
theorem ty32 : tyF Try.prog 32 = some (1, false, 8, [I64 (0)]) := by kernel_rfl
theorem ty34 : tyF Try.prog 34 = some (1, false, 8, [.nilFunc]) := by kernel_rfl
theorem ty35 : tyF Try.prog 35 = some (1, false, 8, [.nilFunc]) := by kernel_rfl
theorem ty36 : tyF Try.prog 36 = some (1, false, 8, [.nilFunc]) := by kernel_rfl
theorem ty38 : tyF Try.prog 38 = some (1, false, 8, [.nilFunc]) := by kernel_rfl
theorem ty39 : tyF Try.prog 39 = some (1, false, 24, [.slice none 0 0]) := by kernel_rfl
theorem ty40 : tyF Try.prog 40 = some (1, false, 8, [.nilFunc]) := by kernel_rfl
theorem ty41 : tyF Try.prog 41 = some (1, false, 8, [.nilFunc]) := by kernel_rfl
theorem ty42 : tyF Try.prog 42 = some (3, true, 24, [I64 (0), I64 (0), I64 (0)]) := by kernel_rfl
theorem fld42_0 : fldF Try.prog 42 0 = some 0 := by kernel_rfl
theorem fld42_1 : fldF Try.prog 42 1 = some 1 := by kernel_rfl
theorem fld42_2 : fldF Try.prog 42 2 = some 2 := by kernel_rfl
theorem pl42 (w : World) : (placesRun Try.prog 42).run Try.prog w = .ok #[(0, 1), (1, 1), (2, 1)] w := by kernel_rfl
theorem ty43 : tyF Try.prog 43 = some (3, true, 24, [I64 (0), I64 (0), I64 (0)]) := by kernel_rfl
theorem fld43_0 : fldF Try.prog 43 0 = some 0 := by kernel_rfl
theorem fld43_1 : fldF Try.prog 43 1 = some 1 := by kernel_rfl
theorem fld43_2 : fldF Try.prog 43 2 = some 2 := by kernel_rfl
theorem pl43 (w : World) : (placesRun Try.prog 43).run Try.prog w = .ok #[(0, 1), (1, 1), (2, 1)] w := by kernel_rfl
theorem ty44 : tyF Try.prog 44 = some (1, false, 8, [.nilFunc]) := by kernel_rfl
theorem ty45 : tyF Try.prog 45 = some (1, false, 8, [.nilFunc]) := by kernel_rfl
theorem ty46 : tyF Try.prog 46 = some (1, false, 8, [.nilFunc]) := by kernel_rfl
theorem ty47 : tyF Try.prog 47 = some (1, false, 24, [.slice none 0 0]) := by kernel_rfl
theorem ty48 : tyF Try.prog 48 = some (1, false, 8, [.nilFunc]) := by kernel_rfl
theorem ty49 : tyF Try.prog 49 = some (1, false, 8, [.nilFunc]) := by kernel_rfl
theorem ty50 : tyF Try.prog 50 = some (1, false, 24, [.slice none 0 0]) := by kernel_rfl
theorem ty52 : tyF Try.prog 52 = some (1, false, 8, [.nilFunc]) := by kernel_rfl
theorem ty53 : tyF Try.prog 53 = some (1, false, 8, [.nilFunc]) := by kernel_rfl
theorem ty54 : tyF Try.prog 54 = some (1, false, 8, [.nilFunc]) := by kernel_rfl
theorem ty55 : tyF Try.prog 55 = some (1, false, 24, [.slice none 0 0]) := by kernel_rfl
theorem ty56 : tyF Try.prog 56 = some (2, true, 32, [I64 (0), .slice none 0 0]) := by kernel_rfl
theorem fld56_0 : fldF Try.prog 56 0 = some 0 := by kernel_rfl
theorem fld56_1 : fldF Try.prog 56 1 = some 1 := by kernel_rfl
theorem pl56 (w : World) : (placesRun Try.prog 56).run Try.prog w = .ok #[(0, 1), (1, 1)] w := by kernel_rfl
theorem ty57 : tyF Try.prog 57 = some (2, true, 32, [I64 (0), .slice none 0 0]) := by kernel_rfl
theorem fld57_0 : fldF Try.prog 57 0 = some 0 := by kernel_rfl
theorem fld57_1 : fldF Try.prog 57 1 = some 1 := by kernel_rfl
theorem pl57 (w : World) : (placesRun Try.prog 57).run Try.prog w = .ok #[(0, 1), (1, 1)] w := by kernel_rfl
theorem ty58 : tyF Try.prog 58 = some (1, false, 8, [.nilFunc]) := by kernel_rfl
theorem ty59 : tyF Try.prog 59 = some (1, false, 8, [.nilFunc]) := by kernel_rfl
theorem ty60 : tyF Try.prog 60 = some (2, true, 16, [I64 (0), I64 (0)]) := by kernel_rfl
theorem ty62 : tyF Try.prog 62 = some (1, false, 8, [.nilFunc]) := by kernel_rfl
theorem ty64 : tyF Try.prog 64 = some (1, false, 8, [.nilFunc]) := by kernel_rfl
theorem ty65 : tyF Try.prog 65 = some (1, false, 24, [.slice none 0 0]) := by kernel_rfl
theorem ty67 : tyF Try.prog 67 = some (1, false, 8, [.nilFunc]) := by kernel_rfl
theorem ty68 : tyF Try.prog 68 = some (1, false, 8, [.nilFunc]) := by kernel_rfl
theorem ty69 : tyF Try.prog 69 = some (1, false, 24, [.slice none 0 0]) := by kernel_rfl
theorem ty70 : tyF Try.prog 70 = some (2, true, 32, [I64 (0), .slice none 0 0]) := by kernel_rfl
theorem fld70_0 : fldF Try.prog 70 0 = some 0 := by kernel_rfl
theorem fld70_1 : fldF Try.prog 70 1 = some 1 := by kernel_rfl
theorem pl70 (w : World) : (placesRun Try.prog 70).run Try.prog w = .ok #[(0, 1), (1, 1)] w := by kernel_rfl
theorem ty71 : tyF Try.prog 71 = some (2, true, 32, [I64 (0), .slice none 0 0]) := by kernel_rfl
theorem fld71_0 : fldF Try.prog 71 0 = some 0 := by kernel_rfl
theorem fld71_1 : fldF Try.prog 71 1 = some 1 := by kernel_rfl
theorem pl71 (w : World) : (placesRun Try.prog 71).run Try.prog w = .ok #[(0, 1), (1, 1)] w := by kernel_rfl
theorem ty72 : tyF Try.prog 72 = some (3, true, 24, [I64 (0), I64 (0), I64 (0)]) := by kernel_rfl
theorem fld72_0 : fldF Try.prog 72 0 = some 0 := by kernel_rfl
theorem fld72_1 : fldF Try.prog 72 1 = some 1 := by kernel_rfl
theorem fld72_2 : fldF Try.prog 72 2 = some 2 := by kernel_rfl
theorem pl72 (w : World) : (placesRun Try.prog 72).run Try.prog w = .ok #[(0, 1), (1, 1), (2, 1)] w := by kernel_rfl
theorem ty73 : tyF Try.prog 73 = some (3, true, 24, [I64 (0), I64 (0), I64 (0)]) := by kernel_rfl
theorem fld73_0 : fldF Try.prog 73 0 = some 0 := by kernel_rfl
theorem fld73_1 : fldF Try.prog 73 1 = some 1 := by kernel_rfl
theorem fld73_2 : fldF Try.prog 73 2 = some 2 := by kernel_rfl
theorem pl73 (w : World) : (placesRun Try.prog 73).run Try.prog w = .ok #[(0, 1), (1, 1), (2, 1)] w := by kernel_rfl
theorem ty74 : tyF Try.prog 74 = some (1, false, 8, [.nilFunc]) := by kernel_rfl
theorem ty75 : tyF Try.prog 75 = some (1, false, 8, [.nilFunc]) := by kernel_rfl
theorem ty76 : tyF Try.prog 76 = some (1, false, 24, [.slice none 0 0]) := by kernel_rfl
theorem ty77 : tyF Try.prog 77 = some (1, false, 8, [.nilFunc]) := by kernel_rfl
theorem ty78 : tyF Try.prog 78 = some (1, false, 24, [.slice none 0 0]) := by kernel_rfl
theorem ty80 : tyF Try.prog 80 = some (1, false, 8, [.nilFunc]) := by kernel_rfl
theorem ty81 : tyF Try.prog 81 = some (1, false, 24, [.slice none 0 0]) := by kernel_rfl
theorem ty83 : tyF Try.prog 83 = some (1, false, 8, [.nilFunc]) := by kernel_rfl
theorem ty84 : tyF Try.prog 84 = some (1, false, 8, [.nilFunc]) := by kernel_rfl
theorem ty85 : tyF Try.prog 85 = some (1, false, 8, [.nilFunc]) := by kernel_rfl
theorem ty87 : tyF Try.prog 87 = some (1, false, 8, [.nilFunc]) := by kernel_rfl
theorem ty88 : tyF Try.prog 88 = some (1, false, 8, [.nilFunc]) := by kernel_rfl
theorem ty89 : tyF Try.prog 89 = some (1, false, 8, [.nilFunc]) := by kernel_rfl
theorem ty90 : tyF Try.prog 90 = some (1, false, 8, [.nilFunc]) := by kernel_rfl
theorem ty91 : tyF Try.prog 91 = some (1, false, 8, [.nilFunc]) := by kernel_rfl
theorem ty92 : tyF Try.prog 92 = some (1, false, 8, [.nilFunc]) := by kernel_rfl
theorem ty93 : tyF Try.prog 93 = some (1, false, 8, [.nilFunc]) := by kernel_rfl
theorem ty95 : tyF Try.prog 95 = some (1, false, 8, [.nilFunc]) := by kernel_rfl
theorem ty96 : tyF Try.prog 96 = some (1, false, 8, [.nilFunc]) := by kernel_rfl
theorem ty97 : tyF Try.prog 97 = some (1, false, 24, [.slice none 0 0]) := by kernel_rfl
theorem ty98 : tyF Try.prog 98 = some (2, true, 32, [I64 (0), .slice none 0 0]) := by kernel_rfl
theorem fld98_0 : fldF Try.prog 98 0 = some 0 := by kernel_rfl
theorem fld98_1 : fldF Try.prog 98 1 = some 1 := by kernel_rfl
theorem pl98 (w : World) : (placesRun Try.prog 98).run Try.prog w = .ok #[(0, 1), (1, 1)] w := by kernel_rfl
theorem ty99 : tyF Try.prog 99 = some (2, true, 32, [I64 (0), .slice none 0 0]) := by kernel_rfl
theorem fld99_0 : fldF Try.prog 99 0 = some 0 := by kernel_rfl
theorem fld99_1 : fldF Try.prog 99 1 = some 1 := by kernel_rfl
theorem pl99 (w : World) : (placesRun Try.prog 99).run Try.prog w = .ok #[(0, 1), (1, 1)] w := by kernel_rfl
theorem ty100 : tyF Try.prog 100 = some (1, false, 8, [.nilFunc]) := by kernel_rfl
theorem ty101 : tyF Try.prog 101 = some (1, false, 8, [.nilFunc]) := by kernel_rfl
theorem ty102 : tyF Try.prog 102 = some (1, false, 8, [.nilFunc]) := by kernel_rfl
theorem ty103 : tyF Try.prog 103 = some (1, false, 24, [.slice none 0 0]) := by kernel_rfl
theorem ty104 : tyF Try.prog 104 = some (1, false, 8, [.nilFunc]) := by kernel_rfl
theorem ty105 : tyF Try.prog 105 = some (1, false, 8, [.nilFunc]) := by kernel_rfl
theorem ty107 : tyF Try.prog 107 = some (1, false, 8, [.nilFunc]) := by kernel_rfl
theorem ty108 : tyF Try.prog 108 = some (1, false, 8, [.nilFunc]) := by kernel_rfl
theorem ty109 : tyF Try.prog 109 = some (1, false, 8, [.nilFunc]) := by kernel_rfl
theorem ty110 : tyF Try.prog 110 = some (1, false, 8, [.nilFunc]) := by kernel_rfl
theorem ty111 : tyF Try.prog 111 = some (1, false, 8, [.nilFunc]) := by kernel_rfl
theorem ty112 : tyF Try.prog 112 = some (1, false, 8, [.nilFunc]) := by kernel_rfl
theorem ty113 : tyF Try.prog 113 = some (1, false, 8, [.nilFunc]) := by kernel_rfl
theorem ty114 : tyF Try.prog 114 = some (1, false, 8, [.nilFunc]) := by kernel_rfl
theorem ty115 : tyF Try.prog 115 = some (1, false, 8, [.nilFunc]) := by kernel_rfl
theorem ty116 : tyF Try.prog 116 = some (1, false, 24, [.slice none 0 0]) := by kernel_rfl
theorem ty117 : tyF Try.prog 117 = some (1, false, 8, [.nilFunc]) := by kernel_rfl
theorem ty118 : tyF Try.prog 118 = some (1, false, 8, [.nilFunc]) := by kernel_rfl
theorem ty120 : tyF Try.prog 120 = some (1, false, 8, [.nilFunc]) := by kernel_rfl
theorem ty121 : tyF Try.prog 121 = some (7, true, 56, [I64 (0), I64 (0), I64 (0), I64 (0), I64 (0), I64 (0), I64 (0)]) := by kernel_rfl
theorem fld121_0 : fldF Try.prog 121 0 = some 0 := by kernel_rfl
theorem fld121_1 : fldF Try.prog 121 1 = some 1 := by kernel_rfl
theorem fld121_2 : fldF Try.prog 121 2 = some 2 := by kernel_rfl
theorem fld121_3 : fldF Try.prog 121 3 = some 3 := by kernel_rfl
theorem fld121_4 : fldF Try.prog 121 4 = some 4 := by kernel_rfl
theorem fld121_5 : fldF Try.prog 121 5 = some 5 := by kernel_rfl
theorem fld121_6 : fldF Try.prog 121 6 = some 6 := by kernel_rfl
theorem pl121 (w : World) : (placesRun Try.prog 121).run Try.prog w = .ok #[(0, 1), (1, 1), (2, 1), (3, 1), (4, 1), (5, 1), (6, 1)] w := by kernel_rfl
theorem ty122 : tyF Try.prog 122 = some (7, true, 56, [I64 (0), I64 (0), I64 (0), I64 (0), I64 (0), I64 (0), I64 (0)]) := by kernel_rfl
theorem fld122_0 : fldF Try.prog 122 0 = some 0 := by kernel_rfl
theorem fld122_1 : fldF Try.prog 122 1 = some 1 := by kernel_rfl
theorem fld122_2 : fldF Try.prog 122 2 = some 2 := by kernel_rfl
theorem fld122_3 : fldF Try.prog 122 3 = some 3 := by kernel_rfl
theorem fld122_4 : fldF Try.prog 122 4 = some 4 := by kernel_rfl
theorem fld122_5 : fldF Try.prog 122 5 = some 5 := by kernel_rfl
theorem fld122_6 : fldF Try.prog 122 6 = some 6 := by kernel_rfl
theorem pl122 (w : World) : (placesRun Try.prog 122).run Try.prog w = .ok #[(0, 1), (1, 1), (2, 1), (3, 1), (4, 1), (5, 1), (6, 1)] w := by kernel_rfl
theorem ty123 : tyF Try.prog 123 = some (1, false, 8, [.nilFunc]) := by kernel_rfl
theorem ty125 : tyF Try.prog 125 = some (1, false, 8, [.nilFunc]) := by kernel_rfl
theorem ty126 : tyF Try.prog 126 = some (1, false, 8, [.nilFunc]) := by kernel_rfl
theorem ty127 : tyF Try.prog 127 = some (1, false, 8, [.nilFunc]) := by kernel_rfl
theorem ty128 : tyF Try.prog 128 = some (2, true, 32, [.slice none 0 0, I64 (0)]) := by kernel_rfl
theorem fld128_0 : fldF Try.prog 128 0 = some 0 := by kernel_rfl
end Go.Sl
namespace Go.Sl
open Go.Proofs
theorem fld128_1 : fldF Try.prog 128 1 = some 1 := by kernel_rfl
theorem pl128 (w : World) : (placesRun Try.prog 128).run Try.prog w = .ok #[(0, 1), (1, 1)] w := by kernel_rfl
theorem ty129 : tyF Try.prog 129 = some (2, true, 32, [.slice none 0 0, I64 (0)]) := by kernel_rfl
theorem fld129_0 : fldF Try.prog 129 0 = some 0 := by kernel_rfl
theorem fld129_1 : fldF Try.prog 129 1 = some 1 := by kernel_rfl
theorem pl129 (w : World) : (placesRun Try.prog 129).run Try.prog w = .ok #[(0, 1), (1, 1)] w := by kernel_rfl
theorem ty130 : tyF Try.prog 130 = some (1, false, 8, [.nilFunc]) := by kernel_rfl
theorem ty131 : tyF Try.prog 131 = some (1, false, 8, [.nilFunc]) := by kernel_rfl
theorem ty133 : tyF Try.prog 133 = some (1, false, 8, [.nilFunc]) := by kernel_rfl
theorem ty134 : tyF Try.prog 134 = some (1, false, 8, [.nilFunc]) := by kernel_rfl
theorem ty135 : tyF Try.prog 135 = some (1, false, 8, [.pointer none]) := by kernel_rfl
theorem ty137 : tyF Try.prog 137 = some (1, false, 8, [.nilFunc]) := by kernel_rfl
theorem ty138 : tyF Try.prog 138 = some (4, true, 32, [I64 (0), I64 (0), I64 (0), I64 (0)]) := by kernel_rfl
theorem fld138_0 : fldF Try.prog 138 0 = some 0 := by kernel_rfl
theorem fld138_1 : fldF Try.prog 138 1 = some 3 := by kernel_rfl
theorem pl138 (w : World) : (placesRun Try.prog 138).run Try.prog w = .ok #[(0, 3), (3, 1)] w := by kernel_rfl
theorem ty139 : tyF Try.prog 139 = some (4, true, 32, [I64 (0), I64 (0), I64 (0), I64 (0)]) := by kernel_rfl
theorem fld139_0 : fldF Try.prog 139 0 = some 0 := by kernel_rfl
theorem fld139_1 : fldF Try.prog 139 1 = some 3 := by kernel_rfl
theorem pl139 (w : World) : (placesRun Try.prog 139).run Try.prog w = .ok #[(0, 3), (3, 1)] w := by kernel_rfl
theorem ty140 : tyF Try.prog 140 = some (1, false, 24, [.slice none 0 0]) := by kernel_rfl
theorem ty141 : tyF Try.prog 141 = some (5, true, 104, [.slice none 0 0, .slice none 0 0, .slice none 0 0, .slice none 0 0, I64 (0)]) := by kernel_rfl
theorem fld141_0 : fldF Try.prog 141 0 = some 0 := by kernel_rfl
theorem fld141_1 : fldF Try.prog 141 1 = some 1 := by kernel_rfl
theorem fld141_2 : fldF Try.prog 141 2 = some 2 := by kernel_rfl
theorem fld141_3 : fldF Try.prog 141 3 = some 3 := by kernel_rfl
theorem fld141_4 : fldF Try.prog 141 4 = some 4 := by kernel_rfl
theorem pl141 (w : World) : (placesRun Try.prog 141).run Try.prog w = .ok #[(0, 1), (1, 1), (2, 1), (3, 1), (4, 1)] w := by kernel_rfl
theorem ty142 : tyF Try.prog 142 = some (5, true, 104, [.slice none 0 0, .slice none 0 0, .slice none 0 0, .slice none 0 0, I64 (0)]) := by kernel_rfl
theorem fld142_0 : fldF Try.prog 142 0 = some 0 := by kernel_rfl
theorem fld142_1 : fldF Try.prog 142 1 = some 1 := by kernel_rfl
theorem fld142_2 : fldF Try.prog 142 2 = some 2 := by kernel_rfl
theorem fld142_3 : fldF Try.prog 142 3 = some 3 := by kernel_rfl
theorem fld142_4 : fldF Try.prog 142 4 = some 4 := by kernel_rfl
theorem pl142 (w : World) : (placesRun Try.prog 142).run Try.prog w = .ok #[(0, 1), (1, 1), (2, 1), (3, 1), (4, 1)] w := by kernel_rfl
theorem ty143 : tyF Try.prog 143 = some (1, false, 24, [.slice none 0 0]) := by kernel_rfl
theorem ty144 : tyF Try.prog 144 = some (1, false, 8, [.nilFunc]) := by kernel_rfl
theorem ty145 : tyF Try.prog 145 = some (1, false, 8, [.nilFunc]) := by kernel_rfl
theorem ty146 : tyF Try.prog 146 = some (1, false, 8, [.nilFunc]) := by kernel_rfl
theorem ty147 : tyF Try.prog 147 = some (1, false, 8, [.nilFunc]) := by kernel_rfl
theorem ty148 : tyF Try.prog 148 = some (1, false, 8, [.nilFunc]) := by kernel_rfl
theorem ty149 : tyF Try.prog 149 = some (2, true, 16, [I64 (0), I64 (0)]) := by kernel_rfl
theorem fld149_0 : fldF Try.prog 149 0 = some 0 := by kernel_rfl
theorem fld149_1 : fldF Try.prog 149 1 = some 1 := by kernel_rfl
theorem pl149 (w : World) : (placesRun Try.prog 149).run Try.prog w = .ok #[(0, 1), (1, 1)] w := by kernel_rfl
theorem ty150 : tyF Try.prog 150 = some (2, true, 16, [I64 (0), I64 (0)]) := by kernel_rfl
theorem fld150_0 : fldF Try.prog 150 0 = some 0 := by kernel_rfl
theorem fld150_1 : fldF Try.prog 150 1 = some 1 := by kernel_rfl
theorem pl150 (w : World) : (placesRun Try.prog 150).run Try.prog w = .ok #[(0, 1), (1, 1)] w := by kernel_rfl
theorem ty151 : tyF Try.prog 151 = some (1, false, 24, [.slice none 0 0]) := by kernel_rfl
theorem ty152 : tyF Try.prog 152 = some (1, false, 8, [.nilFunc]) := by kernel_rfl
theorem ty153 : tyF Try.prog 153 = some (1, false, 8, [.nilFunc]) := by kernel_rfl
theorem ty154 : tyF Try.prog 154 = some (1, false, 8, [.nilFunc]) := by kernel_rfl
theorem ty156 : tyF Try.prog 156 = some (1, false, 8, [.nilFunc]) := by kernel_rfl
theorem ty157 : tyF Try.prog 157 = some (6, true, 48, [I64 (0), I64 (0), I64 (0), I64 (0), I64 (0), I64 (0)]) := by kernel_rfl
theorem fld157_0 : fldF Try.prog 157 0 = some 0 := by kernel_rfl
theorem fld157_1 : fldF Try.prog 157 1 = some 1 := by kernel_rfl
theorem fld157_2 : fldF Try.prog 157 2 = some 2 := by kernel_rfl
theorem fld157_3 : fldF Try.prog 157 3 = some 3 := by kernel_rfl
theorem fld157_4 : fldF Try.prog 157 4 = some 4 := by kernel_rfl
theorem fld157_5 : fldF Try.prog 157 5 = some 5 := by kernel_rfl
theorem pl157 (w : World) : (placesRun Try.prog 157).run Try.prog w = .ok #[(0, 1), (1, 1), (2, 1), (3, 1), (4, 1), (5, 1)] w := by kernel_rfl
theorem ty158 : tyF Try.prog 158 = some (6, true, 48, [I64 (0), I64 (0), I64 (0), I64 (0), I64 (0), I64 (0)]) := by kernel_rfl
theorem fld158_0 : fldF Try.prog 158 0 = some 0 := by kernel_rfl
theorem fld158_1 : fldF Try.prog 158 1 = some 1 := by kernel_rfl
theorem fld158_2 : fldF Try.prog 158 2 = some 2 := by kernel_rfl
theorem fld158_3 : fldF Try.prog 158 3 = some 3 := by kernel_rfl
theorem fld158_4 : fldF Try.prog 158 4 = some 4 := by kernel_rfl
theorem fld158_5 : fldF Try.prog 158 5 = some 5 := by kernel_rfl
theorem pl158 (w : World) : (placesRun Try.prog 158).run Try.prog w = .ok #[(0, 1), (1, 1), (2, 1), (3, 1), (4, 1), (5, 1)] w := by kernel_rfl
theorem ty159 : tyF Try.prog 159 = some (1, false, 8, [.nilFunc]) := by kernel_rfl
theorem ty160 : tyF Try.prog 160 = some (1, false, 8, [.nilFunc]) := by kernel_rfl
theorem ty161 : tyF Try.prog 161 = some (1, false, 8, [.nilFunc]) := by kernel_rfl
theorem ty162 : tyF Try.prog 162 = some (1, false, 8, [.nilFunc]) := by kernel_rfl
theorem ty164 : tyF Try.prog 164 = some (1, false, 8, [.nilFunc]) := by kernel_rfl
theorem ty165 : tyF Try.prog 165 = some (1, false, 8, [.nilFunc]) := by kernel_rfl
theorem ty166 : tyF Try.prog 166 = some (1, false, 8, [.nilFunc]) := by kernel_rfl
theorem ty167 : tyF Try.prog 167 = some (1, false, 8, [.nilFunc]) := by kernel_rfl
theorem ty168 : tyF Try.prog 168 = some (1, false, 8, [.nilFunc]) := by kernel_rfl
theorem ty170 : tyF Try.prog 170 = some (1, false, 8, [.nilFunc]) := by kernel_rfl
theorem ty171 : tyF Try.prog 171 = some (1, false, 8, [.nilFunc]) := by kernel_rfl
theorem ty172 : tyF Try.prog 172 = some (1, false, 8, [.nilFunc]) := by kernel_rfl
theorem ty173 : tyF Try.prog 173 = some (1, false, 8, [.nilFunc]) := by kernel_rfl
theorem ty174 : tyF Try.prog 174 = some (1, false, 8, [.nilFunc]) := by kernel_rfl
theorem ty175 : tyF Try.prog 175 = some (1, false, 8, [.nilFunc]) := by kernel_rfl
theorem ty176 : tyF Try.prog 176 = some (1, false, 8, [.nilFunc]) := by kernel_rfl
theorem ty177 : tyF Try.prog 177 = some (1, false, 8, [.nilFunc]) := by kernel_rfl
theorem ty178 : tyF Try.prog 178 = some (1, false, 8, [.nilFunc]) := by kernel_rfl
theorem ty179 : tyF Try.prog 179 = some (2, true, 16, [I64 (0), I64 (0)]) := by kernel_rfl
theorem fld179_0 : fldF Try.prog 179 0 = some 0 := by kernel_rfl
theorem fld179_1 : fldF Try.prog 179 1 = some 1 := by kernel_rfl
theorem pl179 (w : World) : (placesRun Try.prog 179).run Try.prog w = .ok #[(0, 1), (1, 1)] w := by kernel_rfl
theorem ty180 : tyF Try.prog 180 = some (2, true, 16, [I64 (0), I64 (0)]) := by kernel_rfl
theorem fld180_0 : fldF Try.prog 180 0 = some 0 := by kernel_rfl
theorem fld180_1 : fldF Try.prog 180 1 = some 1 := by kernel_rfl
theorem pl180 (w : World) : (placesRun Try.prog 180).run Try.prog w = .ok #[(0, 1), (1, 1)] w := by kernel_rfl
theorem ty182 : tyF Try.prog 182 = some (1, false, 8, [.nilFunc]) := by kernel_rfl
theorem ty183 : tyF Try.prog 183 = some (1, false, 8, [.nilFunc]) := by kernel_rfl
theorem ty184 : tyF Try.prog 184 = some (1, false, 8, [.nilFunc]) := by kernel_rfl
theorem ty185 : tyF Try.prog 185 = some (1, false, 8, [.nilFunc]) := by kernel_rfl
theorem ty186 : tyF Try.prog 186 = some (1, false, 8, [.nilFunc]) := by kernel_rfl
theorem ty187 : tyF Try.prog 187 = some (1, false, 8, [.nilFunc]) := by kernel_rfl
theorem ty188 : tyF Try.prog 188 = some (1, false, 8, [.nilFunc]) := by kernel_rfl
theorem ty189 : tyF Try.prog 189 = some (1, false, 8, [.nilFunc]) := by kernel_rfl
theorem ty190 : tyF Try.prog 190 = some (1, false, 8, [.nilFunc]) := by kernel_rfl
theorem ty191 : tyF Try.prog 191 = some (1, false, 8, [.nilFunc]) := by kernel_rfl
theorem ty192 : tyF Try.prog 192 = some (1, false, 8, [.nilFunc]) := by kernel_rfl
theorem ty193 : tyF Try.prog 193 = some (1, false, 8, [.nilFunc]) := by kernel_rfl
theorem ty194 : tyF Try.prog 194 = some (1, false, 8, [.nilFunc]) := by kernel_rfl
theorem ty195 : tyF Try.prog 195 = some (1, false, 8, [.nilFunc]) := by kernel_rfl
theorem ty196 : tyF Try.prog 196 = some (1, false, 8, [.nilFunc]) := by kernel_rfl
theorem ty197 : tyF Try.prog 197 = some (1, false, 8, [.nilFunc]) := by kernel_rfl
theorem ty198 : tyF Try.prog 198 = some (1, false, 8, [.nilFunc]) := by kernel_rfl
theorem ty199 : tyF Try.prog 199 = some (1, false, 8, [.pointer none]) := by kernel_rfl
theorem ty200 : tyF Try.prog 200 = some (3, true, 56, [I64 (0), .slice none 0 0, .slice none 0 0]) := by kernel_rfl
theorem fld200_0 : fldF Try.prog 200 0 = some 0 := by kernel_rfl
theorem fld200_1 : fldF Try.prog 200 1 = some 2 := by kernel_rfl
theorem pl200 (w : World) : (placesRun Try.prog 200).run Try.prog w = .ok #[(0, 2), (2, 1)] w := by kernel_rfl
theorem ty201 : tyF Try.prog 201 = some (3, true, 56, [I64 (0), .slice none 0 0, .slice none 0 0]) := by kernel_rfl
theorem fld201_0 : fldF Try.prog 201 0 = some 0 := by kernel_rfl
theorem fld201_1 : fldF Try.prog 201 1 = some 2 := by kernel_rfl
theorem pl201 (w : World) : (placesRun Try.prog 201).run Try.prog w = .ok #[(0, 2), (2, 1)] w := by kernel_rfl
theorem ty202 : tyF Try.prog 202 = some (1, false, 8, [.nilFunc]) := by kernel_rfl
theorem ty203 : tyF Try.prog 203 = some (1, false, 8, [.nilFunc]) := by kernel_rfl
theorem ty204 : tyF Try.prog 204 = some (1, false, 8, [.nilFunc]) := by kernel_rfl
theorem ty205 : tyF Try.prog 205 = some (1, false, 8, [.nilFunc]) := by kernel_rfl
theorem ty206 : tyF Try.prog 206 = some (1, false, 8, [.nilFunc]) := by kernel_rfl
theorem ty207 : tyF Try.prog 207 = some (1, false, 8, [.nilFunc]) := by kernel_rfl
theorem ty208 : tyF Try.prog 208 = some (1, false, 8, [.nilFunc]) := by kernel_rfl
theorem ty209 : tyF Try.prog 209 = some (1, false, 8, [.int .u64 (0)]) := by kernel_rfl
theorem ty210 : tyF Try.prog 210 = some (1, false, 8, [.nilFunc]) := by kernel_rfl
theorem ty211 : tyF Try.prog 211 = some (1, false, 8, [.nilFunc]) := by kernel_rfl
theorem ty212 : tyF Try.prog 212 = some (1, false, 8, [.nilFunc]) := by kernel_rfl
theorem ty213 : tyF Try.prog 213 = some (1, false, 8, [.nilFunc]) := by kernel_rfl
theorem ty214 : tyF Try.prog 214 = some (1, false, 8, [.nilFunc]) := by kernel_rfl
theorem ty215 : tyF Try.prog 215 = some (1, false, 8, [.nilFunc]) := by kernel_rfl
theorem ty216 : tyF Try.prog 216 = some (1, false, 8, [.nilFunc]) := by kernel_rfl
theorem ty217 : tyF Try.prog 217 = some (1, false, 8, [.nilFunc]) := by kernel_rfl
theorem ty218 : tyF Try.prog 218 = some (1, false, 8, [.nilFunc]) := by kernel_rfl
theorem ty219 : tyF Try.prog 219 = some (1, false, 8, [.nilFunc]) := by kernel_rfl
theorem ty220 : tyF Try.prog 220 = some (1, false, 8, [.nilFunc]) := by kernel_rfl
theorem ty221 : tyF Try.prog 221 = some (1, false, 8, [.nilFunc]) := by kernel_rfl
theorem ty222 : tyF Try.prog 222 = some (1, false, 8, [.nilFunc]) := by kernel_rfl
theorem ty223 : tyF Try.prog 223 = some (1, false, 8, [.nilFunc]) := by kernel_rfl
theorem ty224 : tyF Try.prog 224 = some (1, false, 8, [.nilFunc]) := by kernel_rfl
theorem ty225 : tyF Try.prog 225 = some (1, false, 8, [.nilFunc]) := by kernel_rfl
theorem ty226 : tyF Try.prog 226 = some (1, false, 8, [.nilFunc]) := by kernel_rfl
theorem ty227 : tyF Try.prog 227 = some (1, false, 8, [.nilFunc]) := by kernel_rfl
theorem ty228 : tyF Try.prog 228 = some (1, false, 8, [.nilFunc]) := by kernel_rfl
theorem ty229 : tyF Try.prog 229 = some (1, false, 8, [.nilFunc]) := by kernel_rfl
theorem ty230 : tyF Try.prog 230 = some (1, false, 8, [.int .u64 (0)]) := by kernel_rfl
theorem ty231 : tyF Try.prog 231 = some (1, false, 8, [.nilFunc]) := by kernel_rfl
theorem ty232 : tyF Try.prog 232 = some (1, false, 8, [.nilFunc]) := by kernel_rfl
theorem ty233 : tyF Try.prog 233 = some (1, false, 8, [.nilFunc]) := by kernel_rfl
theorem ty234 : tyF Try.prog 234 = some (1, false, 8, [.nilFunc]) := by kernel_rfl
theorem ty236 : tyF Try.prog 236 = some (1, false, 8, [.nilFunc]) := by kernel_rfl
theorem ty237 : tyF Try.prog 237 = some (1, false, 24, [.slice none 0 0]) := by kernel_rfl
theorem ty238 : tyF Try.prog 238 = some (1, false, 8, [.nilFunc]) := by kernel_rfl
theorem ty239 : tyF Try.prog 239 = some (1, false, 8, [.nilFunc]) := by kernel_rfl
theorem ty240 : tyF Try.prog 240 = some (1, false, 8, [.nilFunc]) := by kernel_rfl
theorem ty241 : tyF Try.prog 241 = some (1, false, 8, [.nilFunc]) := by kernel_rfl
theorem ty242 : tyF Try.prog 242 = some (1, false, 8, [.nilFunc]) := by kernel_rfl
theorem ty243 : tyF Try.prog 243 = some (1, false, 8, [.nilFunc]) := by kernel_rfl
theorem ty244 : tyF Try.prog 244 = some (1, false, 8, [.nilFunc]) := by kernel_rfl
theorem ty245 : tyF Try.prog 245 = some (1, false, 8, [.nilFunc]) := by kernel_rfl
theorem ty246 : tyF Try.prog 246 = some (1, false, 8, [.nilFunc]) := by kernel_rfl
theorem ty247 : tyF Try.prog 247 = some (1, false, 8, [.nilFunc]) := by kernel_rfl
theorem ty248 : tyF Try.prog 248 = some (3, true, 24, [.int .u64 (0), .int .u64 (0), .bool false]) := by kernel_rfl
theorem fld248_0 : fldF Try.prog 248 0 = some 0 := by kernel_rfl
theorem fld248_1 : fldF Try.prog 248 1 = some 1 := by kernel_rfl
theorem fld248_2 : fldF Try.prog 248 2 = some 2 := by kernel_rfl
theorem pl248 (w : World) : (placesRun Try.prog 248).run Try.prog w = .ok #[(0, 1), (1, 1), (2, 1)] w := by kernel_rfl
theorem ty249 : tyF Try.prog 249 = some (3, true, 24, [.int .u64 (0), .int .u64 (0), .bool false]) := by kernel_rfl
theorem fld249_0 : fldF Try.prog 249 0 = some 0 := by kernel_rfl
theorem fld249_1 : fldF Try.prog 249 1 = some 1 := by kernel_rfl
theorem fld249_2 : fldF Try.prog 249 2 = some 2 := by kernel_rfl
theorem pl249 (w : World) : (placesRun Try.prog 249).run Try.prog w = .ok #[(0, 1), (1, 1), (2, 1)] w := by kernel_rfl
theorem ty250 : tyF Try.prog 250 = some (1, false, 8, [.nilFunc]) := by kernel_rfl
theorem ty251 : tyF Try.prog 251 = some (1, false, 8, [.nilFunc]) := by kernel_rfl
end Go.Sl
namespace Go.Sl
open Go.Proofs
theorem ty252 : tyF Try.prog 252 = some (1, false, 8, [I64 (0)]) := by kernel_rfl
theorem ty254 : tyF Try.prog 254 = some (1, false, 8, [.nilFunc]) := by kernel_rfl
theorem ty255 : tyF Try.prog 255 = some (1, false, 8, [.nilFunc]) := by kernel_rfl
theorem ty256 : tyF Try.prog 256 = some (1, false, 8, [.nilFunc]) := by kernel_rfl
theorem ty257 : tyF Try.prog 257 = some (1, false, 8, [.nilFunc]) := by kernel_rfl
theorem ty258 : tyF Try.prog 258 = some (1, false, 8, [.nilFunc]) := by kernel_rfl
theorem ty259 : tyF Try.prog 259 = some (1, false, 4, [.int .u32 (0)]) := by kernel_rfl
theorem ty260 : tyF Try.prog 260 = some (1, false, 8, [.nilFunc]) := by kernel_rfl
theorem ty261 : tyF Try.prog 261 = some (1, false, 8, [.nilFunc]) := by kernel_rfl
theorem ty262 : tyF Try.prog 262 = some (1, false, 8, [.nilFunc]) := by kernel_rfl
theorem ty263 : tyF Try.prog 263 = some (1, false, 8, [.nilFunc]) := by kernel_rfl
theorem ty264 : tyF Try.prog 264 = some (1, false, 8, [.nilFunc]) := by kernel_rfl
theorem ty265 : tyF Try.prog 265 = some (1, false, 8, [.nilFunc]) := by kernel_rfl
theorem ty267 : tyF Try.prog 267 = some (1, false, 8, [.nilFunc]) := by kernel_rfl
theorem ty268 : tyF Try.prog 268 = some (1, false, 8, [.nilFunc]) := by kernel_rfl
theorem ty269 : tyF Try.prog 269 = some (1, false, 8, [.nilFunc]) := by kernel_rfl
theorem ty270 : tyF Try.prog 270 = some (1, false, 8, [.nilFunc]) := by kernel_rfl
theorem ty271 : tyF Try.prog 271 = some (1, false, 8, [.nilFunc]) := by kernel_rfl
theorem ty272 : tyF Try.prog 272 = some (1, false, 8, [.nilFunc]) := by kernel_rfl
theorem ty273 : tyF Try.prog 273 = some (1, false, 8, [.int .u64 (0)]) := by kernel_rfl
theorem ty274 : tyF Try.prog 274 = some (1, false, 8, [.nilFunc]) := by kernel_rfl
theorem ty275 : tyF Try.prog 275 = some (1, false, 8, [.nilFunc]) := by kernel_rfl
theorem ty276 : tyF Try.prog 276 = some (1, false, 8, [.nilFunc]) := by kernel_rfl
theorem ty277 : tyF Try.prog 277 = some (1, false, 8, [.pointer none]) := by kernel_rfl
theorem ty278 : tyF Try.prog 278 = some (1, false, 8, [.nilFunc]) := by kernel_rfl
theorem ty279 : tyF Try.prog 279 = some (1, false, 8, [.nilFunc]) := by kernel_rfl
theorem ty280 : tyF Try.prog 280 = some (1, false, 8, [.nilFunc]) := by kernel_rfl
theorem ty281 : tyF Try.prog 281 = some (1, false, 8, [.nilFunc]) := by kernel_rfl
theorem ty282 : tyF Try.prog 282 = some (1, false, 8, [.nilFunc]) := by kernel_rfl
theorem ty283 : tyF Try.prog 283 = some (1, false, 8, [.nilFunc]) := by kernel_rfl
theorem ty284 : tyF Try.prog 284 = some (1, false, 8, [.nilFunc]) := by kernel_rfl
theorem ty285 : tyF Try.prog 285 = some (1, false, 8, [.nilFunc]) := by kernel_rfl
theorem ty286 : tyF Try.prog 286 = some (1, false, 8, [.nilFunc]) := by kernel_rfl
theorem ty287 : tyF Try.prog 287 = some (1, false, 8, [.nilFunc]) := by kernel_rfl
theorem ty288 : tyF Try.prog 288 = some (1, false, 8, [.nilFunc]) := by kernel_rfl
theorem ty289 : tyF Try.prog 289 = some (1, false, 8, [.nilFunc]) := by kernel_rfl
theorem ty290 : tyF Try.prog 290 = some (1, false, 8, [.nilFunc]) := by kernel_rfl
theorem ty291 : tyF Try.prog 291 = some (1, false, 8, [.nilFunc]) := by kernel_rfl
theorem ty292 : tyF Try.prog 292 = some (1, false, 8, [.pointer none]) := by kernel_rfl
theorem ty294 : tyF Try.prog 294 = some (1, false, 8, [.nilFunc]) := by kernel_rfl
theorem ty295 : tyF Try.prog 295 = some (1, false, 8, [.nilFunc]) := by kernel_rfl
theorem ty296 : tyF Try.prog 296 = some (1, false, 8, [.nilFunc]) := by kernel_rfl
theorem ty297 : tyF Try.prog 297 = some (1, false, 8, [.nilFunc]) := by kernel_rfl
theorem ty298 : tyF Try.prog 298 = some (1, false, 8, [.nilFunc]) := by kernel_rfl
theorem ty299 : tyF Try.prog 299 = some (1, false, 8, [.nilFunc]) := by kernel_rfl
theorem ty301 : tyF Try.prog 301 = some (1, false, 8, [.nilFunc]) := by kernel_rfl
theorem ty302 : tyF Try.prog 302 = some (1, false, 8, [.nilFunc]) := by kernel_rfl
theorem ty303 : tyF Try.prog 303 = some (1, false, 8, [.nilFunc]) := by kernel_rfl
theorem ty304 : tyF Try.prog 304 = some (1, false, 8, [.nilFunc]) := by kernel_rfl
theorem ty307 : tyF Try.prog 307 = some (0, true, 0, []) := by kernel_rfl
theorem ty308 : tyF Try.prog 308 = some (0, true, 0, []) := by kernel_rfl
theorem ty310 : tyF Try.prog 310 = some (1, false, 8, [.nilFunc]) := by kernel_rfl
theorem ty313 : tyF Try.prog 313 = some (1, false, 8, [.nilFunc]) := by kernel_rfl
theorem ty314 : tyF Try.prog 314 = some (1, false, 8, [.pointer none]) := by kernel_rfl
theorem ty317 : tyF Try.prog 317 = some (11, true, 48, [.int .u64 (0), .int .u64 (0), .int .u32 (0), .int .u8 (0), .int .u8 (0), .int .u8 (0), .int .u8 (0), .nilFunc, .pointer none, .int .i32 (0), .int .i32 (0)]) := by kernel_rfl
theorem fld317_0 : fldF Try.prog 317 0 = some 0 := by kernel_rfl
theorem fld317_1 : fldF Try.prog 317 1 = some 1 := by kernel_rfl
theorem fld317_2 : fldF Try.prog 317 2 = some 2 := by kernel_rfl
theorem fld317_3 : fldF Try.prog 317 3 = some 3 := by kernel_rfl
theorem fld317_4 : fldF Try.prog 317 4 = some 4 := by kernel_rfl
theorem fld317_5 : fldF Try.prog 317 5 = some 5 := by kernel_rfl
theorem fld317_6 : fldF Try.prog 317 6 = some 6 := by kernel_rfl
theorem fld317_7 : fldF Try.prog 317 7 = some 7 := by kernel_rfl
theorem fld317_8 : fldF Try.prog 317 8 = some 8 := by kernel_rfl
theorem fld317_9 : fldF Try.prog 317 9 = some 9 := by kernel_rfl
theorem fld317_10 : fldF Try.prog 317 10 = some 10 := by kernel_rfl
theorem pl317 (w : World) : (placesRun Try.prog 317).run Try.prog w = .ok #[(0, 1), (1, 1), (2, 1), (3, 1), (4, 1), (5, 1), (6, 1), (7, 1), (8, 1), (9, 1), (10, 1)] w := by kernel_rfl
theorem call3 : callable Try.prog 3 = true := by kernel_rfl
theorem call4 : callable Try.prog 4 = true := by kernel_rfl
theorem call5 : callable Try.prog 5 = true := by kernel_rfl
theorem call6 : callable Try.prog 6 = true := by kernel_rfl
theorem call7 : callable Try.prog 7 = true := by kernel_rfl
theorem call8 : callable Try.prog 8 = true := by kernel_rfl
theorem call9 : callable Try.prog 9 = true := by kernel_rfl
theorem call10 : callable Try.prog 10 = true := by kernel_rfl
theorem call11 : callable Try.prog 11 = true := by kernel_rfl
theorem call12 : callable Try.prog 12 = true := by kernel_rfl
theorem call13 : callable Try.prog 13 = true := by kernel_rfl
theorem call14 : callable Try.prog 14 = true := by kernel_rfl
theorem call15 : callable Try.prog 15 = true := by kernel_rfl
theorem call16 : callable Try.prog 16 = true := by kernel_rfl
theorem call17 : callable Try.prog 17 = true := by kernel_rfl
theorem call18 : callable Try.prog 18 = true := by kernel_rfl
theorem call19 : callable Try.prog 19 = true := by kernel_rfl
theorem call20 : callable Try.prog 20 = true := by kernel_rfl
theorem call21 : callable Try.prog 21 = true := by kernel_rfl
theorem call22 : callable Try.prog 22 = true := by kernel_rfl
theorem call23 : callable Try.prog 23 = true := by kernel_rfl
theorem call24 : callable Try.prog 24 = true := by kernel_rfl
theorem call25 : callable Try.prog 25 = true := by kernel_rfl
theorem call26 : callable Try.prog 26 = true := by kernel_rfl
theorem call27 : callable Try.prog 27 = true := by kernel_rfl
theorem call28 : callable Try.prog 28 = true := by kernel_rfl
theorem call29 : callable Try.prog 29 = true := by kernel_rfl
theorem call30 : callable Try.prog 30 = true := by kernel_rfl
theorem call31 : callable Try.prog 31 = true := by kernel_rfl
theorem call32 : callable Try.prog 32 = true := by kernel_rfl
theorem call33 : callable Try.prog 33 = true := by kernel_rfl
theorem call34 : callable Try.prog 34 = true := by kernel_rfl
theorem call35 : callable Try.prog 35 = true := by kernel_rfl
theorem call36 : callable Try.prog 36 = true := by kernel_rfl
theorem call37 : callable Try.prog 37 = true := by kernel_rfl
theorem call38 : callable Try.prog 38 = true := by kernel_rfl
theorem call39 : callable Try.prog 39 = true := by kernel_rfl
theorem call40 : callable Try.prog 40 = true := by kernel_rfl
theorem call41 : callable Try.prog 41 = true := by kernel_rfl
theorem call42 : callable Try.prog 42 = true := by kernel_rfl
theorem call43 : callable Try.prog 43 = true := by kernel_rfl
theorem call44 : callable Try.prog 44 = true := by kernel_rfl
theorem call45 : callable Try.prog 45 = true := by kernel_rfl
theorem call46 : callable Try.prog 46 = true := by kernel_rfl
theorem call47 : callable Try.prog 47 = true := by kernel_rfl
theorem call48 : callable Try.prog 48 = true := by kernel_rfl
theorem call49 : callable Try.prog 49 = true := by kernel_rfl
theorem call50 : callable Try.prog 50 = true := by kernel_rfl
theorem call51 : callable Try.prog 51 = true := by kernel_rfl
theorem call52 : callable Try.prog 52 = true := by kernel_rfl
theorem call53 : callable Try.prog 53 = true := by kernel_rfl
theorem call54 : callable Try.prog 54 = true := by kernel_rfl
theorem call55 : callable Try.prog 55 = true := by kernel_rfl
theorem call56 : callable Try.prog 56 = true := by kernel_rfl
theorem call57 : callable Try.prog 57 = true := by kernel_rfl
theorem call58 : callable Try.prog 58 = true := by kernel_rfl
theorem call59 : callable Try.prog 59 = true := by kernel_rfl
theorem call60 : callable Try.prog 60 = true := by kernel_rfl
theorem call61 : callable Try.prog 61 = true := by kernel_rfl
theorem call62 : callable Try.prog 62 = true := by kernel_rfl
theorem call63 : callable Try.prog 63 = true := by kernel_rfl
theorem call64 : callable Try.prog 64 = true := by kernel_rfl
theorem call65 : callable Try.prog 65 = true := by kernel_rfl
theorem call66 : callable Try.prog 66 = true := by kernel_rfl
theorem call67 : callable Try.prog 67 = true := by kernel_rfl
theorem call68 : callable Try.prog 68 = true := by kernel_rfl
theorem call69 : callable Try.prog 69 = true := by kernel_rfl
theorem call70 : callable Try.prog 70 = true := by kernel_rfl
theorem call71 : callable Try.prog 71 = true := by kernel_rfl
theorem call72 : callable Try.prog 72 = true := by kernel_rfl
theorem call73 : callable Try.prog 73 = true := by kernel_rfl
theorem call74 : callable Try.prog 74 = true := by kernel_rfl
theorem call75 : callable Try.prog 75 = true := by kernel_rfl
theorem call76 : callable Try.prog 76 = true := by kernel_rfl
theorem call77 : callable Try.prog 77 = true := by kernel_rfl
theorem call78 : callable Try.prog 78 = true := by kernel_rfl
theorem call79 : callable Try.prog 79 = true := by kernel_rfl
theorem call80 : callable Try.prog 80 = true := by kernel_rfl
theorem call81 : callable Try.prog 81 = true := by kernel_rfl
theorem call82 : callable Try.prog 82 = true := by kernel_rfl
theorem call83 : callable Try.prog 83 = true := by kernel_rfl
theorem call84 : callable Try.prog 84 = true := by kernel_rfl
theorem call85 : callable Try.prog 85 = true := by kernel_rfl
theorem call86 : callable Try.prog 86 = true := by kernel_rfl
theorem call87 : callable Try.prog 87 = true := by kernel_rfl
theorem call88 : callable Try.prog 88 = true := by kernel_rfl
theorem call89 : callable Try.prog 89 = true := by kernel_rfl
theorem call90 : callable Try.prog 90 = true := by kernel_rfl
theorem call91 : callable Try.prog 91 = true := by kernel_rfl
theorem call92 : callable Try.prog 92 = true := by kernel_rfl
theorem call93 : callable Try.prog 93 = true := by kernel_rfl
theorem call94 : callable Try.prog 94 = true := by kernel_rfl
theorem call95 : callable Try.prog 95 = true := by kernel_rfl
theorem call96 : callable Try.prog 96 = true := by kernel_rfl
theorem call97 : callable Try.prog 97 = true := by kernel_rfl
theorem call98 : callable Try.prog 98 = true := by kernel_rfl
theorem call99 : callable Try.prog 99 = true := by kernel_rfl
theorem call100 : callable Try.prog 100 = true := by kernel_rfl
theorem call101 : callable Try.prog 101 = true := by kernel_rfl
theorem call102 : callable Try.prog 102 = true := by kernel_rfl
theorem call103 : callable Try.prog 103 = true := by kernel_rfl
theorem call104 : callable Try.prog 104 = true := by kernel_rfl
theorem call105 : callable Try.prog 105 = true := by kernel_rfl
theorem call106 : callable Try.prog 106 = true := by kernel_rfl
theorem call107 : callable Try.prog 107 = true := by kernel_rfl
theorem call108 : callable Try.prog 108 = true := by kernel_rfl
theorem call109 : callable Try.prog 109 = true := by kernel_rfl
theorem call110 : callable Try.prog 110 = true := by kernel_rfl
theorem call111 : callable Try.prog 111 = true := by kernel_rfl
theorem call112 : callable Try.prog 112 = true := by kernel_rfl
theorem call113 : callable Try.prog 113 = true := by kernel_rfl
theorem call114 : callable Try.prog 114 = true := by kernel_rfl
end Go.Sl
namespace Go.Sl
open Go.Proofs
theorem call115 : callable Try.prog 115 = true := by kernel_rfl
theorem call116 : callable Try.prog 116 = true := by kernel_rfl
theorem call117 : callable Try.prog 117 = true := by kernel_rfl
theorem call118 : callable Try.prog 118 = true := by kernel_rfl
theorem call119 : callable Try.prog 119 = true := by kernel_rfl
theorem call120 : callable Try.prog 120 = true := by kernel_rfl
theorem call121 : callable Try.prog 121 = true := by kernel_rfl
theorem call122 : callable Try.prog 122 = true := by kernel_rfl
theorem call123 : callable Try.prog 123 = true := by kernel_rfl
theorem call124 : callable Try.prog 124 = true := by kernel_rfl
theorem call125 : callable Try.prog 125 = true := by kernel_rfl
theorem call126 : callable Try.prog 126 = true := by kernel_rfl
theorem call127 : callable Try.prog 127 = true := by kernel_rfl
theorem call128 : callable Try.prog 128 = true := by kernel_rfl
theorem call129 : callable Try.prog 129 = true := by kernel_rfl
theorem call130 : callable Try.prog 130 = true := by kernel_rfl
theorem call131 : callable Try.prog 131 = true := by kernel_rfl
theorem call132 : callable Try.prog 132 = true := by kernel_rfl
theorem call133 : callable Try.prog 133 = true := by kernel_rfl
theorem call134 : callable Try.prog 134 = true := by kernel_rfl
theorem call135 : callable Try.prog 135 = true := by kernel_rfl
theorem call136 : callable Try.prog 136 = true := by kernel_rfl
theorem call137 : callable Try.prog 137 = true := by kernel_rfl
theorem call138 : callable Try.prog 138 = true := by kernel_rfl
theorem call139 : callable Try.prog 139 = true := by kernel_rfl
theorem call140 : callable Try.prog 140 = true := by kernel_rfl
theorem call141 : callable Try.prog 141 = true := by kernel_rfl
theorem call142 : callable Try.prog 142 = true := by kernel_rfl
theorem call143 : callable Try.prog 143 = true := by kernel_rfl
theorem call144 : callable Try.prog 144 = true := by kernel_rfl
theorem call145 : callable Try.prog 145 = true := by kernel_rfl
theorem call146 : callable Try.prog 146 = true := by kernel_rfl
theorem call147 : callable Try.prog 147 = true := by kernel_rfl
theorem call148 : callable Try.prog 148 = true := by kernel_rfl
theorem call149 : callable Try.prog 149 = true := by kernel_rfl
theorem call150 : callable Try.prog 150 = true := by kernel_rfl
theorem call151 : callable Try.prog 151 = true := by kernel_rfl
theorem call152 : callable Try.prog 152 = true := by kernel_rfl
theorem call153 : callable Try.prog 153 = true := by kernel_rfl
theorem call154 : callable Try.prog 154 = true := by kernel_rfl
theorem call155 : callable Try.prog 155 = true := by kernel_rfl
theorem call156 : callable Try.prog 156 = true := by kernel_rfl
theorem call157 : callable Try.prog 157 = true := by kernel_rfl
theorem call158 : callable Try.prog 158 = true := by kernel_rfl
theorem call159 : callable Try.prog 159 = true := by kernel_rfl
theorem call160 : callable Try.prog 160 = true := by kernel_rfl
theorem call161 : callable Try.prog 161 = true := by kernel_rfl
theorem call162 : callable Try.prog 162 = true := by kernel_rfl
theorem call163 : callable Try.prog 163 = true := by kernel_rfl
theorem call164 : callable Try.prog 164 = true := by kernel_rfl
theorem call165 : callable Try.prog 165 = true := by kernel_rfl
theorem call166 : callable Try.prog 166 = true := by kernel_rfl
theorem call167 : callable Try.prog 167 = true := by kernel_rfl
theorem call168 : callable Try.prog 168 = true := by kernel_rfl
theorem call169 : callable Try.prog 169 = true := by kernel_rfl
theorem call170 : callable Try.prog 170 = true := by kernel_rfl
theorem call171 : callable Try.prog 171 = true := by kernel_rfl
theorem call172 : callable Try.prog 172 = true := by kernel_rfl
theorem call173 : callable Try.prog 173 = true := by kernel_rfl
theorem call174 : callable Try.prog 174 = true := by kernel_rfl
theorem call175 : callable Try.prog 175 = true := by kernel_rfl
theorem call176 : callable Try.prog 176 = true := by kernel_rfl
theorem call177 : callable Try.prog 177 = true := by kernel_rfl
theorem call178 : callable Try.prog 178 = true := by kernel_rfl
theorem call179 : callable Try.prog 179 = true := by kernel_rfl
theorem call180 : callable Try.prog 180 = true := by kernel_rfl
theorem call181 : callable Try.prog 181 = true := by kernel_rfl
theorem call182 : callable Try.prog 182 = true := by kernel_rfl
theorem call183 : callable Try.prog 183 = true := by kernel_rfl
theorem call184 : callable Try.prog 184 = true := by kernel_rfl
theorem call185 : callable Try.prog 185 = true := by kernel_rfl
theorem call186 : callable Try.prog 186 = true := by kernel_rfl
theorem call187 : callable Try.prog 187 = true := by kernel_rfl
theorem call188 : callable Try.prog 188 = true := by kernel_rfl
theorem call189 : callable Try.prog 189 = true := by kernel_rfl
theorem call190 : callable Try.prog 190 = true := by kernel_rfl
theorem call191 : callable Try.prog 191 = true := by kernel_rfl
theorem call192 : callable Try.prog 192 = true := by kernel_rfl
theorem call193 : callable Try.prog 193 = true := by kernel_rfl
theorem call194 : callable Try.prog 194 = true := by kernel_rfl
theorem call195 : callable Try.prog 195 = true := by kernel_rfl
theorem call196 : callable Try.prog 196 = true := by kernel_rfl
theorem call197 : callable Try.prog 197 = true := by kernel_rfl
theorem call198 : callable Try.prog 198 = true := by kernel_rfl
theorem call199 : callable Try.prog 199 = true := by kernel_rfl
theorem call200 : callable Try.prog 200 = true := by kernel_rfl
theorem call201 : callable Try.prog 201 = true := by kernel_rfl
theorem call202 : callable Try.prog 202 = true := by kernel_rfl
theorem call204 : callable Try.prog 204 = true := by kernel_rfl
theorem call205 : callable Try.prog 205 = true := by kernel_rfl
theorem call206 : callable Try.prog 206 = true := by kernel_rfl
theorem call207 : callable Try.prog 207 = true := by kernel_rfl
theorem call208 : callable Try.prog 208 = true := by kernel_rfl
theorem call209 : callable Try.prog 209 = true := by kernel_rfl
theorem call210 : callable Try.prog 210 = true := by kernel_rfl
theorem call211 : callable Try.prog 211 = true := by kernel_rfl
theorem call212 : callable Try.prog 212 = true := by kernel_rfl
theorem call213 : callable Try.prog 213 = true := by kernel_rfl
theorem call214 : callable Try.prog 214 = true := by kernel_rfl
theorem call215 : callable Try.prog 215 = true := by kernel_rfl
theorem call216 : callable Try.prog 216 = true := by kernel_rfl
theorem call217 : callable Try.prog 217 = true := by kernel_rfl
theorem call218 : callable Try.prog 218 = true := by kernel_rfl
theorem call219 : callable Try.prog 219 = true := by kernel_rfl
theorem call220 : callable Try.prog 220 = true := by kernel_rfl
theorem call221 : callable Try.prog 221 = true := by kernel_rfl
theorem call222 : callable Try.prog 222 = true := by kernel_rfl
theorem call223 : callable Try.prog 223 = true := by kernel_rfl
theorem call224 : callable Try.prog 224 = true := by kernel_rfl
theorem call225 : callable Try.prog 225 = true := by kernel_rfl
theorem call226 : callable Try.prog 226 = true := by kernel_rfl
theorem call227 : callable Try.prog 227 = true := by kernel_rfl
theorem call228 : callable Try.prog 228 = true := by kernel_rfl
theorem call229 : callable Try.prog 229 = true := by kernel_rfl
theorem call230 : callable Try.prog 230 = true := by kernel_rfl
theorem call231 : callable Try.prog 231 = true := by kernel_rfl
theorem call232 : callable Try.prog 232 = true := by kernel_rfl
theorem call233 : callable Try.prog 233 = true := by kernel_rfl
theorem call234 : callable Try.prog 234 = true := by kernel_rfl
theorem call235 : callable Try.prog 235 = true := by kernel_rfl
theorem call236 : callable Try.prog 236 = true := by kernel_rfl
theorem call237 : callable Try.prog 237 = true := by kernel_rfl
theorem call238 : callable Try.prog 238 = true := by kernel_rfl
theorem call239 : callable Try.prog 239 = true := by kernel_rfl
theorem call240 : callable Try.prog 240 = true := by kernel_rfl
theorem call241 : callable Try.prog 241 = true := by kernel_rfl
theorem call242 : callable Try.prog 242 = true := by kernel_rfl
theorem call243 : callable Try.prog 243 = true := by kernel_rfl
theorem call244 : callable Try.prog 244 = true := by kernel_rfl
theorem call245 : callable Try.prog 245 = true := by kernel_rfl
theorem call246 : callable Try.prog 246 = true := by kernel_rfl
theorem call247 : callable Try.prog 247 = true := by kernel_rfl
theorem call248 : callable Try.prog 248 = true := by kernel_rfl
theorem call249 : callable Try.prog 249 = true := by kernel_rfl
theorem call250 : callable Try.prog 250 = true := by kernel_rfl
theorem call251 : callable Try.prog 251 = true := by kernel_rfl
theorem call252 : callable Try.prog 252 = true := by kernel_rfl
theorem call253 : callable Try.prog 253 = true := by kernel_rfl
theorem call254 : callable Try.prog 254 = true := by kernel_rfl
theorem call255 : callable Try.prog 255 = true := by kernel_rfl
theorem call256 : callable Try.prog 256 = true := by kernel_rfl
theorem call257 : callable Try.prog 257 = true := by kernel_rfl
theorem call258 : callable Try.prog 258 = true := by kernel_rfl
theorem call259 : callable Try.prog 259 = true := by kernel_rfl
theorem call260 : callable Try.prog 260 = true := by kernel_rfl
theorem call261 : callable Try.prog 261 = true := by kernel_rfl
theorem call262 : callable Try.prog 262 = true := by kernel_rfl
theorem call263 : callable Try.prog 263 = true := by kernel_rfl
theorem call264 : callable Try.prog 264 = true := by kernel_rfl
theorem call265 : callable Try.prog 265 = true := by kernel_rfl
theorem call266 : callable Try.prog 266 = true := by kernel_rfl
theorem call267 : callable Try.prog 267 = true := by kernel_rfl
theorem call268 : callable Try.prog 268 = true := by kernel_rfl
theorem call269 : callable Try.prog 269 = true := by kernel_rfl
theorem call270 : callable Try.prog 270 = true := by kernel_rfl
theorem call271 : callable Try.prog 271 = true := by kernel_rfl
theorem call272 : callable Try.prog 272 = true := by kernel_rfl
theorem call273 : callable Try.prog 273 = true := by kernel_rfl
theorem call274 : callable Try.prog 274 = true := by kernel_rfl
theorem call275 : callable Try.prog 275 = true := by kernel_rfl
theorem call276 : callable Try.prog 276 = true := by kernel_rfl
theorem call277 : callable Try.prog 277 = true := by kernel_rfl
theorem call278 : callable Try.prog 278 = true := by kernel_rfl
theorem call279 : callable Try.prog 279 = true := by kernel_rfl
theorem call280 : callable Try.prog 280 = true := by kernel_rfl
theorem call281 : callable Try.prog 281 = true := by kernel_rfl
theorem call282 : callable Try.prog 282 = true := by kernel_rfl
theorem call283 : callable Try.prog 283 = true := by kernel_rfl
theorem call284 : callable Try.prog 284 = true := by kernel_rfl
theorem call285 : callable Try.prog 285 = true := by kernel_rfl
theorem call287 : callable Try.prog 287 = true := by kernel_rfl
theorem call288 : callable Try.prog 288 = true := by kernel_rfl
theorem call289 : callable Try.prog 289 = true := by kernel_rfl
theorem call290 : callable Try.prog 290 = true := by kernel_rfl
theorem call292 : callable Try.prog 292 = true := by kernel_rfl
theorem call293 : callable Try.prog 293 = true := by kernel_rfl
theorem call294 : callable Try.prog 294 = true := by kernel_rfl
theorem mixed : Try.prog.follows .mixedOrders = true := by kernel_rfl
end Go.Sl

