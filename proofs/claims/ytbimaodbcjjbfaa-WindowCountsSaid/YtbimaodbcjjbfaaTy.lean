/- A part of the proofs of statements of this seat: contracts of functions, and the plain laws that they lean on. No conditions. -/
import Derived.Test.YtbimaodbcjjbfaaLib
import Derived.Test.YtbimaodbcjjbfaaProg
import Derived.KernelRfl
namespace Go.Sl
open Go.Proofs
theorem ty3 : tyF Try.prog 3 = some (1, false, 8, [I64 (0)]) := by kernel_rfl
theorem ty22 : tyF Try.prog 22 = some (1, false, 24, [.slice none 0 0]) := by kernel_rfl
theorem ty69 : tyF Try.prog 69 = some (1, false, 24, [.slice none 0 0]) := by kernel_rfl
theorem ty71 : tyF Try.prog 71 = some (2, true, 32, [I64 (0), .slice none 0 0]) := by kernel_rfl
theorem fld71_0 : fldF Try.prog 71 0 = some 0 := by kernel_rfl
theorem fld71_1 : fldF Try.prog 71 1 = some 1 := by kernel_rfl
theorem pl71 (w : World) : (placesRun Try.prog 71).run Try.prog w = .ok #[(0, 1), (1, 1)] w := by kernel_rfl
theorem ty73 : tyF Try.prog 73 = some (3, true, 24, [I64 (0), I64 (0), I64 (0)]) := by kernel_rfl
theorem fld73_0 : fldF Try.prog 73 0 = some 0 := by kernel_rfl
theorem fld73_1 : fldF Try.prog 73 1 = some 1 := by kernel_rfl
theorem fld73_2 : fldF Try.prog 73 2 = some 2 := by kernel_rfl
theorem pl73 (w : World) : (placesRun Try.prog 73).run Try.prog w = .ok #[(0, 1), (1, 1), (2, 1)] w := by kernel_rfl
theorem ty81 : tyF Try.prog 81 = some (1, false, 24, [.slice none 0 0]) := by kernel_rfl
theorem ty122 : tyF Try.prog 122 = some (7, true, 56, [I64 (0), I64 (0), I64 (0), I64 (0), I64 (0), I64 (0), I64 (0)]) := by kernel_rfl
theorem fld122_0 : fldF Try.prog 122 0 = some 0 := by kernel_rfl
theorem fld122_1 : fldF Try.prog 122 1 = some 1 := by kernel_rfl
theorem fld122_2 : fldF Try.prog 122 2 = some 2 := by kernel_rfl
theorem fld122_3 : fldF Try.prog 122 3 = some 3 := by kernel_rfl
theorem fld122_4 : fldF Try.prog 122 4 = some 4 := by kernel_rfl
theorem fld122_5 : fldF Try.prog 122 5 = some 5 := by kernel_rfl
theorem fld122_6 : fldF Try.prog 122 6 = some 6 := by kernel_rfl
theorem pl122 (w : World) : (placesRun Try.prog 122).run Try.prog w = .ok #[(0, 1), (1, 1), (2, 1), (3, 1), (4, 1), (5, 1), (6, 1)] w := by kernel_rfl
end Go.Sl
namespace Go.Sl
open Go.Proofs
theorem ty129 : tyF Try.prog 129 = some (2, true, 32, [.slice none 0 0, I64 (0)]) := by kernel_rfl
theorem fld129_0 : fldF Try.prog 129 0 = some 0 := by kernel_rfl
theorem fld129_1 : fldF Try.prog 129 1 = some 1 := by kernel_rfl
theorem pl129 (w : World) : (placesRun Try.prog 129).run Try.prog w = .ok #[(0, 1), (1, 1)] w := by kernel_rfl
theorem ty150 : tyF Try.prog 150 = some (2, true, 16, [I64 (0), I64 (0)]) := by kernel_rfl
theorem fld150_0 : fldF Try.prog 150 0 = some 0 := by kernel_rfl
theorem fld150_1 : fldF Try.prog 150 1 = some 1 := by kernel_rfl
theorem pl150 (w : World) : (placesRun Try.prog 150).run Try.prog w = .ok #[(0, 1), (1, 1)] w := by kernel_rfl
theorem ty158 : tyF Try.prog 158 = some (6, true, 48, [I64 (0), I64 (0), I64 (0), I64 (0), I64 (0), I64 (0)]) := by kernel_rfl
theorem fld158_0 : fldF Try.prog 158 0 = some 0 := by kernel_rfl
theorem fld158_1 : fldF Try.prog 158 1 = some 1 := by kernel_rfl
theorem fld158_2 : fldF Try.prog 158 2 = some 2 := by kernel_rfl
theorem fld158_3 : fldF Try.prog 158 3 = some 3 := by kernel_rfl
theorem fld158_4 : fldF Try.prog 158 4 = some 4 := by kernel_rfl
theorem fld158_5 : fldF Try.prog 158 5 = some 5 := by kernel_rfl
theorem pl158 (w : World) : (placesRun Try.prog 158).run Try.prog w = .ok #[(0, 1), (1, 1), (2, 1), (3, 1), (4, 1), (5, 1)] w := by kernel_rfl
theorem ty201 : tyF Try.prog 201 = some (3, true, 56, [I64 (0), .slice none 0 0, .slice none 0 0]) := by kernel_rfl
theorem fld201_0 : fldF Try.prog 201 0 = some 0 := by kernel_rfl
theorem fld201_1 : fldF Try.prog 201 1 = some 2 := by kernel_rfl
theorem pl201 (w : World) : (placesRun Try.prog 201).run Try.prog w = .ok #[(0, 2), (2, 1)] w := by kernel_rfl
end Go.Sl
namespace Go.Sl
open Go.Proofs
theorem call22 : callable Try.prog 22 = true := by kernel_rfl
theorem call25 : callable Try.prog 25 = true := by kernel_rfl
theorem call49 : callable Try.prog 49 = true := by kernel_rfl
theorem call53 : callable Try.prog 53 = true := by kernel_rfl
theorem call57 : callable Try.prog 57 = true := by kernel_rfl
theorem call58 : callable Try.prog 58 = true := by kernel_rfl
theorem call61 : callable Try.prog 61 = true := by kernel_rfl
theorem call74 : callable Try.prog 74 = true := by kernel_rfl
theorem call84 : callable Try.prog 84 = true := by kernel_rfl
theorem call85 : callable Try.prog 85 = true := by kernel_rfl
theorem call87 : callable Try.prog 87 = true := by kernel_rfl
theorem call88 : callable Try.prog 88 = true := by kernel_rfl
end Go.Sl
namespace Go.Sl
open Go.Proofs
theorem call115 : callable Try.prog 115 = true := by kernel_rfl
theorem call116 : callable Try.prog 116 = true := by kernel_rfl
theorem call117 : callable Try.prog 117 = true := by kernel_rfl
theorem call120 : callable Try.prog 120 = true := by kernel_rfl
theorem call121 : callable Try.prog 121 = true := by kernel_rfl
theorem call122 : callable Try.prog 122 = true := by kernel_rfl
theorem call123 : callable Try.prog 123 = true := by kernel_rfl
theorem call124 : callable Try.prog 124 = true := by kernel_rfl
theorem call136 : callable Try.prog 136 = true := by kernel_rfl
theorem call153 : callable Try.prog 153 = true := by kernel_rfl
theorem call154 : callable Try.prog 154 = true := by kernel_rfl
theorem call155 : callable Try.prog 155 = true := by kernel_rfl
theorem call156 : callable Try.prog 156 = true := by kernel_rfl
theorem call157 : callable Try.prog 157 = true := by kernel_rfl
theorem call158 : callable Try.prog 158 = true := by kernel_rfl
theorem call159 : callable Try.prog 159 = true := by kernel_rfl
theorem call172 : callable Try.prog 172 = true := by kernel_rfl
theorem call173 : callable Try.prog 173 = true := by kernel_rfl
theorem call176 : callable Try.prog 176 = true := by kernel_rfl
theorem call177 : callable Try.prog 177 = true := by kernel_rfl
theorem call178 : callable Try.prog 178 = true := by kernel_rfl
theorem call179 : callable Try.prog 179 = true := by kernel_rfl
theorem call180 : callable Try.prog 180 = true := by kernel_rfl
theorem call181 : callable Try.prog 181 = true := by kernel_rfl
theorem call182 : callable Try.prog 182 = true := by kernel_rfl
theorem call183 : callable Try.prog 183 = true := by kernel_rfl
theorem call184 : callable Try.prog 184 = true := by kernel_rfl
theorem call185 : callable Try.prog 185 = true := by kernel_rfl
theorem call186 : callable Try.prog 186 = true := by kernel_rfl
theorem call187 : callable Try.prog 187 = true := by kernel_rfl
theorem call188 : callable Try.prog 188 = true := by kernel_rfl
theorem call189 : callable Try.prog 189 = true := by kernel_rfl
theorem call190 : callable Try.prog 190 = true := by kernel_rfl
theorem call191 : callable Try.prog 191 = true := by kernel_rfl
theorem call205 : callable Try.prog 205 = true := by kernel_rfl
theorem call206 : callable Try.prog 206 = true := by kernel_rfl
theorem call207 : callable Try.prog 207 = true := by kernel_rfl
theorem call208 : callable Try.prog 208 = true := by kernel_rfl
theorem call217 : callable Try.prog 217 = true := by kernel_rfl
theorem call218 : callable Try.prog 218 = true := by kernel_rfl
theorem call219 : callable Try.prog 219 = true := by kernel_rfl
theorem call220 : callable Try.prog 220 = true := by kernel_rfl
theorem call222 : callable Try.prog 222 = true := by kernel_rfl
theorem call246 : callable Try.prog 246 = true := by kernel_rfl
theorem call247 : callable Try.prog 247 = true := by kernel_rfl
theorem call248 : callable Try.prog 248 = true := by kernel_rfl
theorem call249 : callable Try.prog 249 = true := by kernel_rfl
theorem call250 : callable Try.prog 250 = true := by kernel_rfl
theorem call267 : callable Try.prog 267 = true := by kernel_rfl
theorem call268 : callable Try.prog 268 = true := by kernel_rfl
theorem call269 : callable Try.prog 269 = true := by kernel_rfl
theorem mixed : Try.prog.follows .mixedOrders = true := by kernel_rfl
end Go.Sl

