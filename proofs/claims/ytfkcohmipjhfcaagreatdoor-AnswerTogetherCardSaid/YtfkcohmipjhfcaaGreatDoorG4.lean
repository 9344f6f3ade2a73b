/- A part of the proofs of statements of this seat: contracts of functions, and the plain laws that they lean on. No conditions. -/
import Derived.Test.YtfkcohmipjhfcaaGreatDoorG3
import Derived.Shelf.SlSortCmp.NoneTotal
import Derived.Shelf.SlSortCmp.WholeK
set_option linter.unusedVariables false
set_option linter.unusedSimpArgs false
set_option linter.unusedSectionVars false
namespace Go.Sl
open Go.Proofs
theorem ty2:tyF Tryz.prog 2=some (1,false,8,[I64 (0)]):=by kernel_rfl
theorem ty3:tyF Tryz.prog 3=some (1,false,8,[I64 (0)]):=by kernel_rfl
theorem ty4:tyF Tryz.prog 4=some (1,false,1,[.bool false]):=by kernel_rfl
theorem ty5:tyF Tryz.prog 5=some (1,false,1,[.int .u8 (0)]):=by kernel_rfl
theorem ty22:tyF Tryz.prog 22=some (1,false,24,[.slice none 0 0]):=by kernel_rfl
theorem ty28:tyF Tryz.prog 28=some (1,false,24,[.slice none 0 0]):=by kernel_rfl
theorem ty31:tyF Tryz.prog 31=some (3,true,24,[I64 (0),I64 (0),I64 (0)]):=by kernel_rfl
theorem fld31_0:fldF Tryz.prog 31 0=some 0:=by kernel_rfl
theorem fld31_1:fldF Tryz.prog 31 1=some 1:=by kernel_rfl
theorem fld31_2:fldF Tryz.prog 31 2=some 2:=by kernel_rfl
theorem pl31(w:World):(placesRun Tryz.prog 31).run Tryz.prog w = .ok #[(0,1),(1,1),(2,1)] w:=by kernel_rfl
theorem ty36:tyF Tryz.prog 36=some (1,false,8,[I64 (0)]):=by kernel_rfl
theorem ty40:tyF Tryz.prog 40=some (2,true,16,[I64 (0),I64 (0)]):=by kernel_rfl
theorem fld40_0:fldF Tryz.prog 40 0=some 0:=by kernel_rfl
theorem fld40_1:fldF Tryz.prog 40 1=some 1:=by kernel_rfl
theorem pl40(w:World):(placesRun Tryz.prog 40).run Tryz.prog w = .ok #[(0,1),(1,1)] w:=by kernel_rfl
theorem ty46:tyF Tryz.prog 46=some (1,false,24,[.slice none 0 0]):=by kernel_rfl
theorem ty48:tyF Tryz.prog 48=some (2,true,32,[I64 (0),.slice none 0 0]):=by kernel_rfl
theorem fld48_0:fldF Tryz.prog 48 0=some 0:=by kernel_rfl
theorem fld48_1:fldF Tryz.prog 48 1=some 1:=by kernel_rfl
theorem pl48(w:World):(placesRun Tryz.prog 48).run Tryz.prog w = .ok #[(0,1),(1,1)] w:=by kernel_rfl
theorem ty64:tyF Tryz.prog 64=some (2,true,16,[I64 (0),I64 (0)]):=by kernel_rfl
theorem ty71:tyF Tryz.prog 71=some (7,true,72,[I64 (0),I64 (0),I64 (0),I64 (0),.slice none 0 0,I64 (0),I64 (0)]):=by kernel_rfl
theorem fld71_0:fldF Tryz.prog 71 0=some 0:=by kernel_rfl
theorem fld71_1:fldF Tryz.prog 71 1=some 1:=by kernel_rfl
theorem fld71_2:fldF Tryz.prog 71 2=some 2:=by kernel_rfl
theorem fld71_3:fldF Tryz.prog 71 3=some 3:=by kernel_rfl
theorem fld71_4:fldF Tryz.prog 71 4=some 4:=by kernel_rfl
theorem fld71_5:fldF Tryz.prog 71 5=some 5:=by kernel_rfl
theorem pl71(w:World):(placesRun Tryz.prog 71).run Tryz.prog w = .ok #[(0,1),(1,1),(2,1),(3,1),(4,1),(5,2)] w:=by kernel_rfl
theorem ty79:tyF Tryz.prog 79=some (1,false,24,[.slice none 0 0]):=by kernel_rfl
theorem ty88:tyF Tryz.prog 88=some (2,true,32,[I64 (0),.slice none 0 0]):=by kernel_rfl
theorem pl88(w:World):(placesRun Tryz.prog 88).run Tryz.prog w = .ok #[(0,1),(1,1)] w:=by kernel_rfl
theorem ty90:tyF Tryz.prog 90=some (11,true,168,[.bool false,I64 (0),I64 (0),.slice none 0 0,I64 (0),I64 (0),.slice none 0 0,.slice none 0 0,.slice none 0 0,I64 (0),.slice none 0 0]):=by kernel_rfl
theorem fld90_0:fldF Tryz.prog 90 0=some 0:=by kernel_rfl
theorem fld90_2:fldF Tryz.prog 90 2=some 2:=by kernel_rfl
theorem fld90_3:fldF Tryz.prog 90 3=some 3:=by kernel_rfl
theorem fld90_4:fldF Tryz.prog 90 4=some 4:=by kernel_rfl
theorem fld90_8:fldF Tryz.prog 90 8=some 9:=by kernel_rfl
theorem pl90(w:World):(placesRun Tryz.prog 90).run Tryz.prog w = .ok #[(0,1),(1,1),(2,1),(3,1),(4,2),(6,1),(7,1),(8,1),(9,2)] w:=by kernel_rfl
theorem ty102:tyF Tryz.prog 102=some (5,true,72,[.slice none 0 0,I64 (0),I64 (0),I64 (0),.slice none 0 0]):=by kernel_rfl
theorem fld102_0:fldF Tryz.prog 102 0=some 0:=by kernel_rfl
theorem fld102_1:fldF Tryz.prog 102 1=some 1:=by kernel_rfl
theorem fld102_2:fldF Tryz.prog 102 2=some 3:=by kernel_rfl
theorem pl102(w:World):(placesRun Tryz.prog 102).run Tryz.prog w = .ok #[(0,1),(1,2),(3,2)] w:=by kernel_rfl
theorem ty108:tyF Tryz.prog 108=some (7,true,56,[I64 (0),I64 (0),I64 (0),I64 (0),I64 (0),I64 (0),I64 (0)]):=by kernel_rfl
theorem fld108_0:fldF Tryz.prog 108 0=some 0:=by kernel_rfl
theorem fld108_1:fldF Tryz.prog 108 1=some 1:=by kernel_rfl
theorem fld108_2:fldF Tryz.prog 108 2=some 2:=by kernel_rfl
theorem fld108_3:fldF Tryz.prog 108 3=some 3:=by kernel_rfl
theorem fld108_4:fldF Tryz.prog 108 4=some 4:=by kernel_rfl
theorem fld108_5:fldF Tryz.prog 108 5=some 5:=by kernel_rfl
theorem fld108_6:fldF Tryz.prog 108 6=some 6:=by kernel_rfl
theorem pl108(w:World):(placesRun Tryz.prog 108).run Tryz.prog w = .ok #[(0,1),(1,1),(2,1),(3,1),(4,1),(5,1),(6,1)] w:=by kernel_rfl
theorem ty109:tyF Tryz.prog 109=some (1,false,24,[.slice none 0 0]):=by kernel_rfl
theorem ty111:tyF Tryz.prog 111=some (2,true,32,[I64 (0),.slice none 0 0]):=by kernel_rfl
theorem fld111_0:fldF Tryz.prog 111 0=some 0:=by kernel_rfl
theorem fld111_1:fldF Tryz.prog 111 1=some 1:=by kernel_rfl
theorem pl111(w:World):(placesRun Tryz.prog 111).run Tryz.prog w = .ok #[(0,1),(1,1)] w:=by kernel_rfl
theorem ty125:tyF Tryz.prog 125=some (2,true,32,[.slice none 0 0,I64 (0)]):=by kernel_rfl
theorem fld125_0:fldF Tryz.prog 125 0=some 0:=by kernel_rfl
theorem fld125_1:fldF Tryz.prog 125 1=some 1:=by kernel_rfl
theorem pl125(w:World):(placesRun Tryz.prog 125).run Tryz.prog w = .ok #[(0,1),(1,1)] w:=by kernel_rfl
end Go.Sl
namespace Go.Sl
open Go.Proofs
theorem ty135:tyF Tryz.prog 135=some (2,true,16,[I64 (0),I64 (0)]):=by kernel_rfl
theorem fld135_0:fldF Tryz.prog 135 0=some 0:=by kernel_rfl
theorem fld135_1:fldF Tryz.prog 135 1=some 1:=by kernel_rfl
theorem pl135(w:World):(placesRun Tryz.prog 135).run Tryz.prog w = .ok #[(0,1),(1,1)] w:=by kernel_rfl
theorem ty146:tyF Tryz.prog 146=some (6,true,48,[I64 (0),I64 (0),I64 (0),I64 (0),I64 (0),I64 (0)]):=by kernel_rfl
theorem fld146_0:fldF Tryz.prog 146 0=some 0:=by kernel_rfl
theorem fld146_1:fldF Tryz.prog 146 1=some 1:=by kernel_rfl
theorem fld146_2:fldF Tryz.prog 146 2=some 2:=by kernel_rfl
theorem fld146_3:fldF Tryz.prog 146 3=some 3:=by kernel_rfl
theorem fld146_4:fldF Tryz.prog 146 4=some 4:=by kernel_rfl
theorem fld146_5:fldF Tryz.prog 146 5=some 5:=by kernel_rfl
theorem pl146(w:World):(placesRun Tryz.prog 146).run Tryz.prog w = .ok #[(0,1),(1,1),(2,1),(3,1),(4,1),(5,1)] w:=by kernel_rfl
theorem ty153:tyF Tryz.prog 153=some (2,true,16,[I64 (0),.bool false]):=by kernel_rfl
theorem fld153_0:fldF Tryz.prog 153 0=some 0:=by kernel_rfl
theorem fld153_1:fldF Tryz.prog 153 1=some 1:=by kernel_rfl
theorem pl153(w:World):(placesRun Tryz.prog 153).run Tryz.prog w = .ok #[(0,1),(1,1)] w:=by kernel_rfl
theorem ty163:tyF Tryz.prog 163=some (5,true,56,[I64 (0),.slice none 0 0,I64 (0),I64 (0),I64 (0)]):=by kernel_rfl
theorem fld163_0:fldF Tryz.prog 163 0=some 0:=by kernel_rfl
theorem fld163_1:fldF Tryz.prog 163 1=some 1:=by kernel_rfl
theorem fld163_2:fldF Tryz.prog 163 2=some 2:=by kernel_rfl
theorem pl163(w:World):(placesRun Tryz.prog 163).run Tryz.prog w = .ok #[(0,1),(1,1),(2,3)] w:=by kernel_rfl
theorem ty175:tyF Tryz.prog 175=some (1,false,8,[.int .u64 (0)]):=by kernel_rfl
theorem ty208:tyF Tryz.prog 208=some (2,true,32,[.int .u64 (0),.slice none 0 0]):=by kernel_rfl
theorem fld208_0:fldF Tryz.prog 208 0=some 0:=by kernel_rfl
theorem fld208_1:fldF Tryz.prog 208 1=some 1:=by kernel_rfl
theorem pl208(w:World):(placesRun Tryz.prog 208).run Tryz.prog w = .ok #[(0,1),(1,1)] w:=by kernel_rfl
theorem ty211:tyF Tryz.prog 211=some (6,true,112,[.slice none 0 0,.slice none 0 0,.slice none 0 0,.slice none 0 0,.int .u64 (0),.int .u64 (0)]):=by kernel_rfl
theorem fld211_0:fldF Tryz.prog 211 0=some 0:=by kernel_rfl
theorem fld211_1:fldF Tryz.prog 211 1=some 1:=by kernel_rfl
theorem fld211_2:fldF Tryz.prog 211 2=some 2:=by kernel_rfl
theorem fld211_3:fldF Tryz.prog 211 3=some 3:=by kernel_rfl
theorem fld211_4:fldF Tryz.prog 211 4=some 4:=by kernel_rfl
theorem fld211_5:fldF Tryz.prog 211 5=some 5:=by kernel_rfl
theorem pl211(w:World):(placesRun Tryz.prog 211).run Tryz.prog w = .ok #[(0,1),(1,1),(2,1),(3,1),(4,1),(5,1)] w:=by kernel_rfl
theorem ty220:tyF Tryz.prog 220=some (5,true,5,[.bool false,.bool false,.bool false,.bool false,.bool false]):=by kernel_rfl
theorem fld220_0:fldF Tryz.prog 220 0=some 0:=by kernel_rfl
theorem fld220_1:fldF Tryz.prog 220 1=some 1:=by kernel_rfl
theorem fld220_2:fldF Tryz.prog 220 2=some 2:=by kernel_rfl
theorem fld220_3:fldF Tryz.prog 220 3=some 3:=by kernel_rfl
theorem fld220_4:fldF Tryz.prog 220 4=some 4:=by kernel_rfl
theorem pl220(w:World):(placesRun Tryz.prog 220).run Tryz.prog w = .ok #[(0,1),(1,1),(2,1),(3,1),(4,1)] w:=by kernel_rfl
theorem ty241:tyF Tryz.prog 241=some (3,true,56,[I64 (0),.slice none 0 0,.slice none 0 0]):=by kernel_rfl
theorem fld241_0:fldF Tryz.prog 241 0=some 0:=by kernel_rfl
theorem fld241_1:fldF Tryz.prog 241 1=some 2:=by kernel_rfl
theorem pl241(w:World):(placesRun Tryz.prog 241).run Tryz.prog w = .ok #[(0,2),(2,1)] w:=by kernel_rfl
theorem ty264:tyF Tryz.prog 264=some (64,true,512,[.int .u64 (0),.int .u64 (0),.int .u64 (0),.int .u64 (0),.int .u64 (0),.int .u64 (0),.int .u64 (0),.int .u64 (0),.int .u64 (0),.int .u64 (0),.int .u64 (0),.int .u64 (0),.int .u64 (0),.int .u64 (0),.int .u64 (0),.int .u64 (0),.int .u64 (0),.int .u64 (0),.int .u64 (0),.int .u64 (0),.int .u64 (0),.int .u64 (0),.int .u64 (0),.int .u64 (0),.int .u64 (0),.int .u64 (0),.int .u64 (0),.int .u64 (0),.int .u64 (0),.int .u64 (0),.int .u64 (0),.int .u64 (0),.int .u64 (0),.int .u64 (0),.int .u64 (0),.int .u64 (0),.int .u64 (0),.int .u64 (0),.int .u64 (0),.int .u64 (0),.int .u64 (0),.int .u64 (0),.int .u64 (0),.int .u64 (0),.int .u64 (0),.int .u64 (0),.int .u64 (0),.int .u64 (0),.int .u64 (0),.int .u64 (0),.int .u64 (0),.int .u64 (0),.int .u64 (0),.int .u64 (0),.int .u64 (0),.int .u64 (0),.int .u64 (0),.int .u64 (0),.int .u64 (0),.int .u64 (0),.int .u64 (0),.int .u64 (0),.int .u64 (0),.int .u64 (0)]):=by kernel_rfl
end Go.Sl
namespace Go.Sl
open Go.Proofs
theorem ty301:tyF Tryz.prog 301=some (1,false,24,[.slice none 0 0]):=by kernel_rfl
theorem ty303:tyF Tryz.prog 303=some (4,true,48,[I64 (0),I64 (0),I64 (0),.slice none 0 0]):=by kernel_rfl
theorem fld303_0:fldF Tryz.prog 303 0=some 0:=by kernel_rfl
theorem fld303_1:fldF Tryz.prog 303 1=some 1:=by kernel_rfl
theorem fld303_2:fldF Tryz.prog 303 2=some 2:=by kernel_rfl
theorem fld303_3:fldF Tryz.prog 303 3=some 3:=by kernel_rfl
theorem pl303(w:World):(placesRun Tryz.prog 303).run Tryz.prog w = .ok #[(0,1),(1,1),(2,1),(3,1)] w:=by kernel_rfl
theorem ty305:tyF Tryz.prog 305=some (3,true,24,[I64 (0),I64 (0),I64 (0)]):=by kernel_rfl
theorem fld305_0:fldF Tryz.prog 305 0=some 0:=by kernel_rfl
theorem fld305_1:fldF Tryz.prog 305 1=some 1:=by kernel_rfl
theorem fld305_2:fldF Tryz.prog 305 2=some 2:=by kernel_rfl
theorem pl305(w:World):(placesRun Tryz.prog 305).run Tryz.prog w = .ok #[(0,1),(1,1),(2,1)] w:=by kernel_rfl
theorem ty336:tyF Tryz.prog 336=some (4,true,32,[I64 (0),I64 (0),I64 (0),I64 (0)]):=by kernel_rfl
theorem fld336_0:fldF Tryz.prog 336 0=some 0:=by kernel_rfl
theorem fld336_1:fldF Tryz.prog 336 1=some 3:=by kernel_rfl
theorem pl336(w:World):(placesRun Tryz.prog 336).run Tryz.prog w = .ok #[(0,3),(3,1)] w:=by kernel_rfl
theorem ty337:tyF Tryz.prog 337=some (1,false,24,[.slice none 0 0]):=by kernel_rfl
theorem ty339:tyF Tryz.prog 339=some (5,true,104,[.slice none 0 0,.slice none 0 0,.slice none 0 0,.slice none 0 0,I64 (0)]):=by kernel_rfl
theorem fld339_0:fldF Tryz.prog 339 0=some 0:=by kernel_rfl
theorem fld339_1:fldF Tryz.prog 339 1=some 1:=by kernel_rfl
theorem fld339_2:fldF Tryz.prog 339 2=some 2:=by kernel_rfl
theorem fld339_3:fldF Tryz.prog 339 3=some 3:=by kernel_rfl
theorem fld339_4:fldF Tryz.prog 339 4=some 4:=by kernel_rfl
theorem pl339(w:World):(placesRun Tryz.prog 339).run Tryz.prog w = .ok #[(0,1),(1,1),(2,1),(3,1),(4,1)] w:=by kernel_rfl
theorem call16:callable Tryz.prog 16=true:=by kernel_rfl
theorem call18:callable Tryz.prog 18=true:=by kernel_rfl
theorem call19:callable Tryz.prog 19=true:=by kernel_rfl
theorem call20:callable Tryz.prog 20=true:=by kernel_rfl
theorem call21:callable Tryz.prog 21=true:=by kernel_rfl
theorem call28:callable Tryz.prog 28=true:=by kernel_rfl
theorem call41:callable Tryz.prog 41=true:=by kernel_rfl
theorem call42:callable Tryz.prog 42=true:=by kernel_rfl
theorem call44:callable Tryz.prog 44=true:=by kernel_rfl
theorem call47:callable Tryz.prog 47=true:=by kernel_rfl
theorem call49:callable Tryz.prog 49=true:=by kernel_rfl
theorem call50:callable Tryz.prog 50=true:=by kernel_rfl
theorem call56:callable Tryz.prog 56=true:=by kernel_rfl
theorem call59:callable Tryz.prog 59=true:=by kernel_rfl
theorem call61:callable Tryz.prog 61=true:=by kernel_rfl
theorem call72:callable Tryz.prog 72=true:=by kernel_rfl
theorem call76:callable Tryz.prog 76=true:=by kernel_rfl
theorem call77:callable Tryz.prog 77=true:=by kernel_rfl
theorem call78:callable Tryz.prog 78=true:=by kernel_rfl
theorem call79:callable Tryz.prog 79=true:=by kernel_rfl
theorem call83:callable Tryz.prog 83=true:=by kernel_rfl
theorem call88:callable Tryz.prog 88=true:=by kernel_rfl
theorem call89:callable Tryz.prog 89=true:=by kernel_rfl
theorem call97:callable Tryz.prog 97=true:=by kernel_rfl
theorem call98:callable Tryz.prog 98=true:=by kernel_rfl
theorem call100:callable Tryz.prog 100=true:=by kernel_rfl
theorem call101:callable Tryz.prog 101=true:=by kernel_rfl
theorem call102:callable Tryz.prog 102=true:=by kernel_rfl
theorem call104:callable Tryz.prog 104=true:=by kernel_rfl
theorem call105:callable Tryz.prog 105=true:=by kernel_rfl
theorem call106:callable Tryz.prog 106=true:=by kernel_rfl
theorem call109:callable Tryz.prog 109=true:=by kernel_rfl
theorem call110:callable Tryz.prog 110=true:=by kernel_rfl
end Go.Sl
namespace Go.Sl
open Go.Proofs
theorem call139:callable Tryz.prog 139=true:=by kernel_rfl
theorem call140:callable Tryz.prog 140=true:=by kernel_rfl
theorem call141:callable Tryz.prog 141=true:=by kernel_rfl
theorem call142:callable Tryz.prog 142=true:=by kernel_rfl
theorem call143:callable Tryz.prog 143=true:=by kernel_rfl
theorem call154:callable Tryz.prog 154=true:=by kernel_rfl
theorem call157:callable Tryz.prog 157=true:=by kernel_rfl
theorem call158:callable Tryz.prog 158=true:=by kernel_rfl
theorem call165:callable Tryz.prog 165=true:=by kernel_rfl
theorem call166:callable Tryz.prog 166=true:=by kernel_rfl
theorem call167:callable Tryz.prog 167=true:=by kernel_rfl
theorem call168:callable Tryz.prog 168=true:=by kernel_rfl
theorem call169:callable Tryz.prog 169=true:=by kernel_rfl
theorem call170:callable Tryz.prog 170=true:=by kernel_rfl
theorem call171:callable Tryz.prog 171=true:=by kernel_rfl
theorem call172:callable Tryz.prog 172=true:=by kernel_rfl
theorem call173:callable Tryz.prog 173=true:=by kernel_rfl
theorem call174:callable Tryz.prog 174=true:=by kernel_rfl
theorem call175:callable Tryz.prog 175=true:=by kernel_rfl
theorem call176:callable Tryz.prog 176=true:=by kernel_rfl
theorem call180:callable Tryz.prog 180=true:=by kernel_rfl
theorem call186:callable Tryz.prog 186=true:=by kernel_rfl
theorem call191:callable Tryz.prog 191=true:=by kernel_rfl
theorem call197:callable Tryz.prog 197=true:=by kernel_rfl
theorem call198:callable Tryz.prog 198=true:=by kernel_rfl
theorem call199:callable Tryz.prog 199=true:=by kernel_rfl
theorem call200:callable Tryz.prog 200=true:=by kernel_rfl
theorem call209:callable Tryz.prog 209=true:=by kernel_rfl
theorem call210:callable Tryz.prog 210=true:=by kernel_rfl
theorem call211:callable Tryz.prog 211=true:=by kernel_rfl
theorem call212:callable Tryz.prog 212=true:=by kernel_rfl
theorem call213:callable Tryz.prog 213=true:=by kernel_rfl
theorem call214:callable Tryz.prog 214=true:=by kernel_rfl
theorem call215:callable Tryz.prog 215=true:=by kernel_rfl
theorem call216:callable Tryz.prog 216=true:=by kernel_rfl
theorem call219:callable Tryz.prog 219=true:=by kernel_rfl
theorem call220:callable Tryz.prog 220=true:=by kernel_rfl
theorem call224:callable Tryz.prog 224=true:=by kernel_rfl
theorem call225:callable Tryz.prog 225=true:=by kernel_rfl
theorem call229:callable Tryz.prog 229=true:=by kernel_rfl
theorem call230:callable Tryz.prog 230=true:=by kernel_rfl
theorem call231:callable Tryz.prog 231=true:=by kernel_rfl
theorem call232:callable Tryz.prog 232=true:=by kernel_rfl
theorem call233:callable Tryz.prog 233=true:=by kernel_rfl
theorem call234:callable Tryz.prog 234=true:=by kernel_rfl
theorem call235:callable Tryz.prog 235=true:=by kernel_rfl
theorem call236:callable Tryz.prog 236=true:=by kernel_rfl
theorem call237:callable Tryz.prog 237=true:=by kernel_rfl
theorem call238:callable Tryz.prog 238=true:=by kernel_rfl
theorem call250:callable Tryz.prog 250=true:=by kernel_rfl
theorem call251:callable Tryz.prog 251=true:=by kernel_rfl
theorem call252:callable Tryz.prog 252=true:=by kernel_rfl
theorem call253:callable Tryz.prog 253=true:=by kernel_rfl
theorem call254:callable Tryz.prog 254=true:=by kernel_rfl
theorem call255:callable Tryz.prog 255=true:=by kernel_rfl
theorem call256:callable Tryz.prog 256=true:=by kernel_rfl
theorem call257:callable Tryz.prog 257=true:=by kernel_rfl
theorem call258:callable Tryz.prog 258=true:=by kernel_rfl
theorem call259:callable Tryz.prog 259=true:=by kernel_rfl
theorem call271:callable Tryz.prog 271=true:=by kernel_rfl
theorem call272:callable Tryz.prog 272=true:=by kernel_rfl
theorem call277:callable Tryz.prog 277=true:=by kernel_rfl
theorem call280:callable Tryz.prog 280=true:=by kernel_rfl
theorem call281:callable Tryz.prog 281=true:=by kernel_rfl
theorem call282:callable Tryz.prog 282=true:=by kernel_rfl
theorem call283:callable Tryz.prog 283=true:=by kernel_rfl
theorem call284:callable Tryz.prog 284=true:=by kernel_rfl
theorem call291:callable Tryz.prog 291=true:=by kernel_rfl
theorem call292:callable Tryz.prog 292=true:=by kernel_rfl
theorem call293:callable Tryz.prog 293=true:=by kernel_rfl
theorem call294:callable Tryz.prog 294=true:=by kernel_rfl
theorem call295:callable Tryz.prog 295=true:=by kernel_rfl
theorem call296:callable Tryz.prog 296=true:=by kernel_rfl
theorem call297:callable Tryz.prog 297=true:=by kernel_rfl
theorem call298:callable Tryz.prog 298=true:=by kernel_rfl
theorem call299:callable Tryz.prog 299=true:=by kernel_rfl
theorem call300:callable Tryz.prog 300=true:=by kernel_rfl
theorem call301:callable Tryz.prog 301=true:=by kernel_rfl
theorem call302:callable Tryz.prog 302=true:=by kernel_rfl
theorem call303:callable Tryz.prog 303=true:=by kernel_rfl
theorem call309:callable Tryz.prog 309=true:=by kernel_rfl
theorem call315:callable Tryz.prog 315=true:=by kernel_rfl
theorem call317:callable Tryz.prog 317=true:=by kernel_rfl
theorem call318:callable Tryz.prog 318=true:=by kernel_rfl
theorem call321:callable Tryz.prog 321=true:=by kernel_rfl
theorem call323:callable Tryz.prog 323=true:=by kernel_rfl
theorem call335:callable Tryz.prog 335=true:=by kernel_rfl
theorem call336:callable Tryz.prog 336=true:=by kernel_rfl
theorem call341:callable Tryz.prog 341=true:=by kernel_rfl
theorem call342:callable Tryz.prog 342=true:=by kernel_rfl
theorem mixed:Tryz.prog.follows .mixedOrders=true:=by kernel_rfl
end Go.Sl

namespace Go.Sl
open Go.Proofs
set_option maxRecDepth 4000
variable {κ:Ctx}{I:List Item}
abbrev deck(b:Nat)(lv:Value)(i:Int):Item:=blk b [lv,I64 i] 125
theorem Mod_ok{n k:Int}(h1:1≤k)(h2:k≤1000000000000) :
    CallS Tryz.prog κ 76 [I64 (n),I64 (k)] I (fun r J=>∃x:Int,r=I64 x∧(0≤x∧x<k)∧I=J):=by
 have q1:=Int.tmod_lt_of_pos n (b:=k) om
 have q2:=Int.lt_tmod_of_pos n (b:=k) om
 refine Ce2 Tryz.func76 rfl rfl ?_
 refine Ah (Ga rfl (Af (Ah (Gm rfl (Gm rfl (Gr (Runs.rem rfl rfl om) (Gm rfl (Gr (Rad rfl rfl) (Gm rfl (Gr (Runs.rem rfl rfl om) (Ga rfl (Af (Az ?_)))))))))))))
 have t1:=Int.tmod_nonneg k (a:=Int.tmod n k+k) om
 have t2:=Int.tmod_lt_of_pos (Int.tmod n k+k) (b:=k) om
 exact A4 rfl rfl (_) Ax ⟨_,rfl,⟨t1,t2⟩,rfl⟩
theorem Next_base{b:Nat}{lv:Value}{ls:List Int}{i:Int}(hl:Sl κ (deck b lv i::I) lv ls)(h0:0≤i){n:Int}(hn:n≤1000000000000) :
    CallS Tryz.prog κ 19 [.pointer (some ⟨b,0,none⟩),I64 (n)] (blk b [lv,I64 (i)] 125::I) (fun r J=>∃y:Int×Int,(r=I64 y.1∧(0≤y.1∧(1≤n→y.1<n)∧(n<1→y.1=0))∧0≤y.2)∧J=[]++deck b lv y.2::I):=by
 refine B4 hl.le fun hmax=>?_
 refine Ce2 Tryz.func19 rfl rfl ?_
 refine Ah (Ga rfl (Af (Ap (Ap (Bd mixed (Bl (blk b [lv,I64 (i)] 125::I) 14 (Dr 0 rfl (Ad rfl) (Dr 1 rfl (Bb rfl rfl) (Dr 2 rfl (Ad rfl) (Dl (d:=8) rfl (fun g8=>?_) (fun g8=>?_)))))))))))
 ·exact Dpo 3 rfl (Dpo 4 rfl (Dpo 5 rfl (Dpo 6 rfl (Dpo 7 rfl (Dpo 8 rfl (Dpo 9 rfl (Dpo 10 rfl (Dpo 11 rfl (Dpo 12 rfl (Dr 13 rfl (As rfl rfl) (Dz (Ai (Ar (S3 19 0 1 rfl rfl rfl) (C0 rfl (Ah (Ga rfl (Af (Az (Ak (A4 rfl rfl (_) Ax ⟨(0,i),⟨rfl,⟨Int.le_refl _,by intro _;show (0:Int)<n;omega,fun _=>rfl⟩,h0⟩,rfl⟩))))))))))))))))))))
 ·refine Dro 3 rfl (Ad rfl) (Dro 4 rfl (Ba rfl) (Dro 5 rfl (Ac fld125_1 rfl) (Dro 6 rfl (Av ty3) ?_)))
  refine Dro 7 rfl (Ad rfl) (Dro 8 rfl (Ba rfl) (Dro 9 rfl (Ac fld125_0 rfl) (Dro 10 rfl (Av ty22) ?_)))
  refine Dro 11 rfl (Bw (α:=Int) (xs:=ls) Aa rfl (Bi hl)) (Dro 12 rfl (Ca rfl rfl) (Dr 13 rfl (Au rfl rfl) (Dz (Ai (Ar (S3 19 0 1 rfl rfl rfl) (A9 rfl (fun c19=>?_) (fun c19=>?_)))))))
  ·exact Ah (Ga rfl (Af (Az (Ak (A4 rfl rfl (_) Ax ⟨(0,i),⟨rfl,⟨Int.le_refl _,by intro _;show (0:Int)<n;omega,fun _=>rfl⟩,h0⟩,rfl⟩)))))
  ·refine A1 (Ai (Ap (Bd mixed (Bl (blk b [lv,I64 (i)] 125::I) 11 (Dr 0 rfl (Ad rfl) (Dr 1 rfl (Ba rfl) (Dr 2 rfl (Ac fld125_0 rfl) (Dr 3 rfl (Av ty22) ?_))))))))
   refine Dr 4 rfl (Ad rfl) (Dr 5 rfl (Ba rfl) (Dr 6 rfl (Ac fld125_1 rfl) (Dr 7 rfl (Av ty3) ?_)))
   refine Dr 8 rfl (A0 (α:=Int) (xs:=ls) Aa ty3 rfl rfl (Bi hl) om om) (Dr 9 rfl (Bp (xs:=ls) ty3 rfl (Bi hl) om om) (Dr 10 rfl (A6 rfl) (Dz (Ai (Ar (S3 5 0 1 rfl rfl rfl) (Ah (Gm rfl (Gr (Ba rfl) (Gf fld125_1 rfl (Gl ty3 ?_))))))))))
   refine Gr (Rad rfl rfl) (Gr (Ba rfl) (Gf fld125_1 rfl (Ge0 (Es2_1 ty3) ?_)))
   refine Af (Ah (Gm rfl (Gm rfl (G.e (Al call76 rfl rfl (Mod_ok om om)) ?_))))
   rintro _ _ ⟨_,_,⟨x1,rfl,hx1,rfl⟩,rfl,rfl⟩
   exact Ga rfl (Af (Ar (S1 4 rfl) (Az (A4 rfl rfl (_) Ax ⟨(x1,i+1),⟨rfl,⟨by omega,by omega,by omega⟩,by show 0≤i+1;omega⟩,rfl⟩))))
theorem Next_ok{F:Item→List Item}{b:Nat}{lv:Value}{ls:List Int}{i:Int}(hat:AtF I (deck b lv i) F)(hl:Sl κ I lv ls)(h0:0≤i){n:Int}(hn:n≤1000000000000) :
  CallS Tryz.prog κ 19 [.pointer (some ⟨b,0,none⟩),I64 n] I fun r J=>∃x i',r=I64 x∧(0≤x∧(1≤n→x<n)∧(n<1→x=0))∧0≤i'∧J=F (deck b lv i'):=
 (Dx (Z:=fun _=>[]) (X:=fun y:Int×Int=>deck b lv y.2) hat fun _ hJ _=>Next_base (hl.fit hJ) h0 hn).mono fun _ _ ⟨y,⟨h1,h2,h3⟩,h4⟩=>⟨y.1,y.2,h1,h2,h3,h4⟩
theorem New_ok{a:Option Addr}{n c:Nat} :
    CallS Tryz.prog κ 18 [.slice a n c] I (fun r J=>∃b,r = .pointer (some ⟨b,0,none⟩)∧J=deck b (.slice a n c) 0::I):=by
 refine Ce1 Tryz.func18 rfl rfl ?_
 exact Ah (Ga rfl (Af (Ah (Gm rfl (Gr (Bg (cells:=[_,_]) ty125 Tryz.underlying125 pl125 rfl rfl) (Ge1 (Bc (cs:=[_,_]) rfl rfl rfl) fun b1=>Ga rfl (Af (Az (A4 rfl rfl (_) Ax ⟨b1,rfl,rfl⟩)))))))))
theorem RHas_ok{v:Value}{xs:List Int}(hl:Sl κ I v xs)(x:Int) :
    CallS Tryz.prog κ 72 [v,I64 (x)] I (fun r J=>r = .bool (decide (x∈xs))∧I=J):=by
 refine B4 hl.le fun hmax=>?_
 refine Ce2 Tryz.func72 rfl rfl ?_
 refine Ah (Ga rfl (Af (Ap (Ah (Gm rfl (Gr (Bw (α:=Int) (xs:=xs) Aa rfl (Bi hl)) (Gm rfl (Af (A3 (Bv (σ:=Nat) (fun s=>([(1,I64 (x)),(7,v),(8,I64 (((xs.length:Nat):Int))),(9,I64 (((s:Nat):Int)))]:Env)) (fun s=>I) (fun s=>(s≤xs.length)∧(∀j,j<s→at_ xs (j:Int)≠x)) (fun s=>xs.length - s) (0) (show ((0:Nat)≤xs.length)∧(∀j,j<(0:Nat)→at_ xs (j:Int)≠x) from ⟨om,all_zero⟩) (Ab rfl (Ab rfl (Ab rfl (Ab Cc Bj)))) (show Fit κ _ (I) from Ay) ?_))))))))))
 rintro k hp
 obtain ⟨hk,hn⟩:=hp
 refine Ah (Gr (Bb rfl rfl) (Af (Ap (A9 rfl (fun c10=>?_) (fun c10=>?_)))))
 ·refine A1 (Ai (Ap (A3 (Ah (Gr (A0 (α:=Int) (xs:=xs) Aa ty3 rfl rfl (Bi hl) om om) (Gr (Bp (xs:=xs) ty3 rfl (Bi hl) om om) (Ga rfl (Af (Ah (Gm rfl (Gm rfl (Gr (Bm rfl rfl) (Af (A9 rfl (fun c15=>?_) (fun c15=>?_)))))))))))))))
  ·refine Ah (Ga rfl (Af (Az (Ao (Ak (Ak (Ao (Ak ?_))))))))
   have hm:x∈xs:=by subst c15;exact Ce om om
   exact A4 rfl rfl (_) Ax ⟨by rw [decide_eq_true hm],rfl⟩
  ·exact A1 (Aj (Ai (A2 (Gr (Rad rfl rfl) (Gm rfl (Bh (B7 ((k+1)) ⟨om,(all_succ hn c15)⟩)))))))
 ·refine Bs (Am (Am (A7 (Ai (Ah (Ga rfl (Af (Az ?_))))))))
  have hm:x∉xs:=not_mem_at hn om
  exact A4 rfl rfl (_) Ax ⟨by rw [decide_eq_false hm],rfl⟩
def ValidP(xs:List Int)(nodes:Int):Prop:=∀j,j<xs.length→(0≤at_ xs (j:Int)∧at_ xs (j:Int)<nodes)∧(0<j→at_ xs ((j:Int) - 1)<at_ xs (j:Int))
instance (xs:List Int) (nodes:Int):Decidable (ValidP xs nodes):=by unfold ValidP;infer_instance
theorem NValid_ok{v:Value}{xs:List Int}(hl:Sl κ I v xs)(nodes:Int) :
    CallS Tryz.prog κ 88 [v,I64 (nodes)] I (fun r J=>r = .bool (decide (ValidP xs nodes))∧I=J):=by
 refine B4 hl.le fun hmax=>?_
 refine Ce2 Tryz.func88 rfl rfl ?_
 refine Ah (Ga rfl (Af (Ap (Ah (Gm rfl (Gr (Bw (α:=Int) (xs:=xs) Aa rfl (Bi hl)) (Gm rfl (Af (A3 (Bv (σ:=Nat) (fun s=>([(0,v),(1,I64 (nodes)),(7,v),(8,I64 (((xs.length:Nat):Int))),(9,I64 (((s:Nat):Int)))]:Env)) (fun s=>I) (fun s=>(s≤xs.length)∧(∀j,j<s→(0≤at_ xs (j:Int)∧at_ xs (j:Int)<nodes)∧(0<j→at_ xs ((j:Int) - 1)<at_ xs (j:Int)))) (fun s=>xs.length - s) (0) (show ((0:Nat)≤xs.length)∧(∀j,j<(0:Nat)→(0≤at_ xs (j:Int)∧at_ xs (j:Int)<nodes)∧(0<j→at_ xs ((j:Int) - 1)<at_ xs (j:Int))) from ⟨om,all_zero⟩) (Ab rfl (Ab rfl (Ab rfl (Ab rfl (Ab Cc Bj))))) (show Fit κ _ (I) from Ay) ?_))))))))))
 rintro k hp
 obtain ⟨hk,hn⟩:=hp
 refine Ah (Gr (Bb rfl rfl) (Af (Ap (A9 rfl (fun c10=>?_) (fun c10=>?_)))))
 ·refine A1 (Ai (Ap (A3 (Ah (Gm rfl (Gr (A0 (α:=Int) (xs:=xs) Aa ty3 rfl rfl (Bi hl) om om) (Gr (Bp (xs:=xs) ty3 rfl (Bi hl) om om) (Ga rfl (Ga rfl (Af (Ah (Gm rfl (Gr (Bb rfl rfl) (Gm rfl (Bk (d:=16) rfl (fun g16=>?_) (fun g16=>?_))))))))))))))))
  ·refine Gpo (Gpo (Gpo (Gr (As rfl rfl) (Gm rfl (Gpo (Gpo (Gpo (Gpu (Gpu (Gpu (Gpu (Gpu (Gpu (Gpu (Gpo (Gr (As rfl rfl) (Af (Ar (S6 33 0 1 7 8 9 rfl rfl rfl rfl rfl rfl) (C0 rfl (Ah (Ga rfl (Af (Az (Ao (Ak (Ak (Ao (Ak ?_))))))))))))))))))))))))))))
   have hm:¬ValidP xs nodes:=fun hv=>by have:=hv k om;omega
   exact A4 rfl rfl (_) Ax ⟨by rw [decide_eq_false hm],rfl⟩
  ·refine Gro (Ad rfl) (Gro (Ad rfl) (Gro (Ca rfl rfl) (Gr (Au rfl rfl) (Gm rfl (Bk (d:=21) rfl (fun g21=>?_) (fun g21=>?_))))))
   ·refine Gpo (Gpo (Gpo (Gpu (Gpu (Gpu (Gpu (Gpu (Gpu (Gpu (Gpo (Gr (As rfl rfl) (Af (Ar (S6 33 0 1 7 8 9 rfl rfl rfl rfl rfl rfl) (C0 rfl (Ah (Ga rfl (Af (Az (Ao (Ak (Ak (Ao (Ak ?_)))))))))))))))))))))))
    have hm:¬ValidP xs nodes:=fun hv=>by have:=hv k om;omega
    exact A4 rfl rfl (_) Ax ⟨by rw [decide_eq_false hm],rfl⟩
   ·refine Gro (Ad rfl) (Gro (B2 rfl rfl) (Gro (Ad rfl) (Bk (d:=24) rfl (fun g24=>?_) (fun g24=>?_))))
    ·refine Gro (Ad rfl) (Gro (Ad rfl) (Gro (Rsu rfl rfl) (Gro (A0 (α:=Int) (xs:=xs) Aa ty3 rfl rfl (Bi hl) om om) (Gro (Bp (xs:=xs) ty3 rfl (Bi hl) om om) (Gro (Ad rfl) (Gro (Ca rfl rfl) (Gro (As rfl rfl) (Gr (Au rfl rfl) (Af (Ar (S6 33 0 1 7 8 9 rfl rfl rfl rfl rfl rfl) (A9 rfl (fun c33=>?_) (fun c33=>?_))))))))))))
     ·refine Ah (Ga rfl (Af (Az (Ao (Ak (Ak (Ao (Ak ?_))))))))
      have hm:¬ValidP xs nodes:=fun hv=>by have:=hv k om;have:=this.2 om;omega
      exact A4 rfl rfl (_) Ax ⟨by rw [decide_eq_false hm],rfl⟩
     ·exact A1 (Aj (Ai (A2 (Gr (Rad rfl rfl) (Gm rfl (Bh (B7 ((k+1)) ⟨om,(all_succ hn ⟨by omega,fun _=>by omega⟩)⟩)))))))
    ·exact Gpo (Gpo (Gpo (Gpo (Gpo (Gpo (Gpo (Gro (Au rfl rfl) (Gr (Au rfl rfl) (Af (Ar (S6 33 0 1 7 8 9 rfl rfl rfl rfl rfl rfl) (D0 rfl (A1 (Aj (Ai (A2 (Gr (Rad rfl rfl) (Gm rfl (Bh (B7 ((k+1)) ⟨om,(all_succ hn ⟨by omega,fun _=>by omega⟩)⟩)))))))))))))))))))
 ·refine Bs (Am (Am (A7 (Ai (Ah (Ga rfl (Af (Az ?_))))))))
  have hm:ValidP xs nodes:=fun j hj=>hn j om
  exact A4 rfl rfl (_) Ax ⟨by rw [decide_eq_true hm],rfl⟩
variable {κ:Ctx}{I:List Item}
theorem IsNaN_ok(n:Int) :
    CallS Tryz.prog κ 277 [I64 (n)] I (fun r J=>r = .bool false∧I=J):=by
 refine Ce1 Tryz.func277 rfl rfl ?_
 exact Ah (Ga rfl (Af (Ah (Gm rfl (Gm rfl (Gr (Br rfl rfl) (Ga rfl (Af (Az (A4 rfl rfl (I) Ax ⟨by simp,rfl⟩))))))))))
theorem Compare_ok(m n:Int) :
    CallS Tryz.prog κ 225 [I64 (m),I64 (n)] I (fun r J=>r=I64 (cmpI m n)∧I=J):=by
 refine Ce2 Tryz.func225 rfl rfl ?_
 refine Ah (Ga rfl (Af (Ah (Gm rfl (Gc0 (Al call277 rfl rfl (IsNaN_ok m)) ?_)))))
 refine Ga rfl (Af (Ah (Gm rfl (Gc0 (Al call277 rfl rfl (IsNaN_ok n)) ?_))))
 refine Ga rfl (Af (Ap (Ah (Gm rfl (Af (D0 rfl (A1 (Ai (Ap (Ah (Gm rfl (Af (D0 rfl (A1 (Ai (Ap (Ah (Gm rfl (Gm rfl (Gr (Bb rfl rfl) (Af (Ar (S3 16 0 1 rfl rfl rfl) (A9 rfl (fun c16=>?_) (fun c16=>?_))))))))))))))))))))))))
 ·exact Ah (Ga rfl (Af (Az (Ak (A4 rfl rfl (I) Ax ⟨by unfold cmpI;rw [if_pos c16],rfl⟩)))))
 ·refine A1 (Ai (Ap (Ah (Gm rfl (Gm rfl (Gr (B2 rfl rfl) (Af (A9 rfl (fun c19=>?_) (fun c19=>?_)))))))))
  ·exact Ah (Ga rfl (Af (Az (Ak (A4 rfl rfl (I) Ax ⟨by unfold cmpI;rw [if_neg c16,if_pos c19],rfl⟩)))))
  ·exact A1 (Ai (Ah (Ga rfl (Af (Az (A4 rfl rfl (I) Ax ⟨by unfold cmpI;rw [if_neg c16,if_neg c19],rfl⟩))))))
theorem Or_ok{v:Value}{xs:List Int}(hl:Sl κ I v xs) :
    CallS Tryz.prog κ 224 [v] I (fun r J=>r=I64 (orL xs)∧I=J):=by
 refine B4 hl.le fun hmax=>?_
 refine Ce1 Tryz.func224 rfl rfl ?_
 refine Ah (Ga rfl (Af (Ah (Ga rfl (Af (Ap (Ah (Gm rfl (Gr (Bw (α:=Int) (xs:=xs) Aa rfl (Bi hl)) (Gm rfl (Af (A3 (Bv (σ:=Nat) (fun s=>([(3,I64 (0)),(6,v),(7,I64 (((xs.length:Nat):Int))),(8,I64 (((s:Nat):Int)))]:Env)) (fun s=>I) (fun s=>(s≤xs.length)∧(orL xs=orL (xs.drop s))) (fun s=>xs.length - s) (0) (show ((0:Nat)≤xs.length)∧(orL xs=orL (xs.drop (0:Nat))) from ⟨om,rfl⟩) (Ab rfl (Ab rfl (Ab rfl (Ab Cc Bj)))) (show Fit κ _ (I) from Ay) ?_)))))))))))))
 rintro k hp
 obtain ⟨hk,ho⟩:=hp
 refine Ah (Gr (Bb rfl rfl) (Af (Ap (A9 rfl (fun c9=>?_) (fun c9=>?_)))))
 ·refine A1 (Ai (Ap (A3 (Ah (Gr (A0 (α:=Int) (xs:=xs) Aa ty3 rfl rfl (Bi hl) om om) (Gr (Bp (xs:=xs) ty3 rfl (Bi hl) om om) (Ga rfl (Af (Ah (Gm rfl (Gm rfl (Gr (Br rfl rfl) (Af (A9 rfl (fun c14=>?_) (fun c14=>?_)))))))))))))))
  ·exact Ah (Gm rfl (Ga rfl (Af (Az (Ao (Ak (Ak (Ao (Ak (A4 rfl rfl (I) Ax ⟨by rw [ho,orL_stop om c14],rfl⟩))))))))))
  ·exact A1 (Aj (Ai (A2 (Gr (Rad rfl rfl) (Gm rfl (Bh (B7 ((k+1)) ⟨om,(ho.trans (orL_step om (Decidable.of_not_not c14)))⟩)))))))
 ·exact Bs (Am (Am (A7 (Ai (Ah (Gm rfl (Ga rfl (Af (Az (A4 rfl rfl (I) Ax ⟨by rw [ho,orL_end om],rfl⟩))))))))))
def cmpL:List Int→List Int→Int
 |[],[]=>0
 |[],_::_=> -1
 |_::_,[]=>1
 |x::xs,y::ys=>if y<x then 1 else if x<y then -1 else cmpL xs ys
theorem cmpL_eq:∀xs ys,cmpL xs ys=0↔xs=ys
 |[],[]=>by simp [cmpL]
 |[],_::_=>by simp [cmpL]
 |_::_,[]=>by simp [cmpL]
 |x::xs,y::ys=>by
  simp only [cmpL]
  split
  ·simp;omega
  ·split
   ·simp;omega
   ·rw [cmpL_eq xs ys]
    have:x=y:=by omega
    simp [this]
theorem cmpL_drop(xs ys:List Int)(k:Nat)(hx:k<xs.length)(hy:k<ys.length)(h1:¬at_ ys (k:Int)<at_ xs (k:Int))(h2:¬at_ xs (k:Int)<at_ ys (k:Int)):cmpL (xs.drop k) (ys.drop k)=cmpL (xs.drop (k+1)) (ys.drop (k+1)):=by
 rw [Do xs k hx,Do ys k hy]
 simp only [cmpL]
 rw [if_neg h1,if_neg h2]
theorem cmpL_drop1(xs ys:List Int)(k:Nat)(hx:k<xs.length)(h:ys.length≤k∨(k<ys.length∧at_ ys (k:Int)<at_ xs (k:Int))):cmpL (xs.drop k) (ys.drop k)=1:=by
 rw [Do xs k hx]
 rcases h with h|⟨hy,h⟩
 ·rw [List.drop_eq_nil_of_le h];rfl
 ·rw [Do ys k hy];simp only [cmpL];rw [if_pos h]
theorem cmpL_dropn(xs ys:List Int)(k:Nat)(hx:k<xs.length)(hy:k<ys.length)(h1:¬at_ ys (k:Int)<at_ xs (k:Int))(h:at_ xs (k:Int)<at_ ys (k:Int)):cmpL (xs.drop k) (ys.drop k) = -1:=by
 rw [Do xs k hx,Do ys k hy];simp only [cmpL];rw [if_neg h1,if_pos h]
theorem cmpL_end(xs ys:List Int)(k:Nat)(hx:xs.length≤k):cmpL (xs.drop k) (ys.drop k)=if k<ys.length then -1 else 0:=by
 rw [List.drop_eq_nil_of_le hx]
 split
 ·rename_i h;rw [Do ys k h];rfl
 ·rename_i h;rw [List.drop_eq_nil_of_le om];rfl
theorem Cmp_ok{κ:Ctx}{I:List Item}{u v:Value}{xs ys:List Int}(hu:Sl κ I u xs)(hv:Sl κ I v ys) :
    CallS Tryz.prog κ 61 [u,v] I (fun r J=>r=I64 (cmpL xs ys)∧I=J):=by
 refine B4 hu.le fun hmax=>?_
 refine B4 hv.le fun hmax2=>?_
 refine Ce2 Tryz.func61 rfl rfl ?_
 refine Ah (Ga rfl (Af (Ap (Ah (Gm rfl (Gr (Bw (α:=Int) (xs:=xs) Aa rfl (Bi hu)) (Gm rfl (Af (A3 (Bv (σ:=Nat) (fun s=>([(0,u),(1,v),(7,I64 (((xs.length:Nat):Int))),(8,I64 (((s:Nat):Int)))]:Env)) (fun s=>I) (fun s=>(s≤xs.length)∧(cmpL xs ys=cmpL (xs.drop s) (ys.drop s))) (fun s=>xs.length - s) (0) (show ((0:Nat)≤xs.length)∧(cmpL xs ys=cmpL (xs.drop (0:Nat)) (ys.drop (0:Nat))) from ⟨om,rfl⟩) (Ab rfl (Ab rfl (Ab rfl (Ab Cc Bj)))) (show Fit κ _ (I) from Ay) ?_))))))))))
 rintro k hp
 obtain ⟨hk,hc⟩:=hp
 refine Ah (Gr (Bb rfl rfl) (Af (Ap (A9 rfl (fun c9=>?_) (fun c9=>?_)))))
 ·refine A1 (Ai (Ap (A3 (Ah (Gm rfl (Ga rfl (Af (A3 (Ap (Bd mixed (Bl (I) 16 (Dr 0 rfl (Ad rfl) (Dr 1 rfl (Ad rfl) (Dr 2 rfl (Bw (α:=Int) (xs:=ys) Aa rfl (Bi hv)) (Dr 3 rfl (Ca rfl rfl) (Dr 4 rfl (Ad rfl) (Dl (d:=16) rfl (fun g16=>?_) (fun g16=>?_))))))))))))))))))
  ·exact Dpo 5 rfl (Dpo 6 rfl (Dpo 7 rfl (Dpo 8 rfl (Dpo 9 rfl (Dpo 10 rfl (Dpo 11 rfl (Dpo 12 rfl (Dpo 13 rfl (Dr 14 rfl (As rfl rfl) (Dr 15 rfl (A6 rfl) (Dz (Ai (Ar (S6 11 5 0 1 7 8 rfl rfl rfl rfl rfl rfl) (C0 rfl (Ah (Ga rfl (Af (Az (Ao (Ao (Ak (Ak (Ao (Ak (A4 rfl rfl (_) Ax ⟨by rw [hc,cmpL_drop1 xs ys k om (.inl om)],rfl⟩)))))))))))))))))))))))))
  ·refine Dro 5 rfl (Ad rfl) (Dro 6 rfl (Ad rfl) (Dro 7 rfl (A0 (α:=Int) (xs:=xs) Aa ty3 rfl rfl (Bi hu) om om) (Dro 8 rfl (Bp (xs:=xs) ty3 rfl (Bi hu) om om) (Dro 9 rfl (Ad rfl) (Dro 10 rfl (Ad rfl) (Dro 11 rfl (A0 (α:=Int) (xs:=ys) Aa ty3 rfl rfl (Bi hv) om om) (Dro 12 rfl (Bp (xs:=ys) ty3 rfl (Bi hv) om om) (Dro 13 rfl (B2 rfl rfl) (Dr 14 rfl (Au rfl rfl) (Dr 15 rfl (A6 rfl) (Dz (Ai (Ar (S6 11 5 0 1 7 8 rfl rfl rfl rfl rfl rfl) (A9 rfl (fun c11=>?_) (fun c11=>?_)))))))))))))))
   ·exact Ah (Ga rfl (Af (Az (Ao (Ao (Ak (Ak (Ao (Ak (A4 rfl rfl (_) Ax ⟨by rw [hc,cmpL_drop1 xs ys k om (.inr ⟨by omega,by omega⟩)],rfl⟩))))))))))
   ·refine Ap (Bd mixed (Bl (I) 10 (Dr 0 rfl (Ad rfl) (Dr 1 rfl (Ad rfl) (Dr 2 rfl (A0 (α:=Int) (xs:=xs) Aa ty3 rfl rfl (Bi hu) om om) (Dr 3 rfl (Bp (xs:=xs) ty3 rfl (Bi hu) om om) (Dr 4 rfl (Ad rfl) (Dr 5 rfl (Ad rfl) (Dr 6 rfl (A0 (α:=Int) (xs:=ys) Aa ty3 rfl rfl (Bi hv) om om) (Dr 7 rfl (Bp (xs:=ys) ty3 rfl (Bi hv) om om) (Dr 8 rfl (Bb rfl rfl) (Dr 9 rfl (A6 rfl) (Dz (Ai (Ar (S5 27 0 1 7 8 rfl rfl rfl rfl rfl) (A9 rfl (fun c27=>?_) (fun c27=>?_)))))))))))))))))
    ·exact Ah (Ga rfl (Af (Az (Ao (Ao (Ak (Ak (Ao (Ak (A4 rfl rfl (_) Ax ⟨by rw [hc,cmpL_dropn xs ys k om om om om],rfl⟩))))))))))
    ·exact A1 (Aj (Aj (Ai (A2 (Gr (Rad rfl rfl) (Gm rfl (Bh (B7 ((k+1)) ⟨om,(hc.trans (cmpL_drop xs ys k om om om om))⟩))))))))
 ·refine Bs (Am (Am (A7 (Ai (Ap (Ah (Gm rfl (Gr (Bw (α:=Int) (xs:=xs) Aa rfl (Bi hu)) (Gm rfl (Gr (Bw (α:=Int) (xs:=ys) Aa rfl (Bi hv)) (Gr (Bb rfl rfl) (Af (A9 rfl (fun c42=>?_) (fun c42=>?_))))))))))))))
  ·exact Ah (Ga rfl (Af (Az (Ak (A4 rfl rfl (_) Ax ⟨by rw [hc,cmpL_end xs ys k om,if_pos om],rfl⟩)))))
  ·exact A1 (Ai (Ah (Ga rfl (Af (Az (A4 rfl rfl (_) Ax ⟨by rw [hc,cmpL_end xs ys k om,if_neg om],rfl⟩))))))
variable {κ:Ctx}{I:List Item}
theorem ValidP_nil(w:Int):ValidP [] w:=fun j hj=>absurd hj (Nat.not_lt_zero j)
theorem ValidP_mono{xs:List Int}{w w':Int}(h:ValidP xs w)(hw:w≤w'):ValidP xs w':=fun j hj=>⟨⟨(h j hj).1.1,by have:=(h j hj).1.2;omega⟩,(h j hj).2⟩
theorem ValidP_push{xs:List Int}{w:Int}(h:ValidP xs w)(h0:0≤w):ValidP (xs++[w]) (w+1):=fun j hj=>by
 by_cases hl:j<xs.length
 ·obtain ⟨⟨h1,h2⟩,h3⟩:=h j hl
  rw [Dq xs [w] j hl]
  refine ⟨⟨h1,by omega⟩,fun hp=>?_⟩
  have e:((j:Int) - 1)=((j - 1:Nat):Int):=by omega
  rw [e,Dq xs [w] (j - 1) om,←e]
  exact h3 hp
 ·obtain rfl:j=xs.length:=by simp at hj;omega
  rw [at_last]
  refine ⟨⟨h0,by omega⟩,fun hp=>?_⟩
  have e:((xs.length:Int) - 1)=((xs.length - 1:Nat):Int):=by omega
  rw [e,Dq xs [w] (xs.length - 1) om]
  exact (h _ om).1.2
theorem ValidP_mem{xs:List Int}{w x:Int}(h:ValidP xs w)(hx:x∈xs):0≤x∧x<w:=by
 obtain ⟨j,hj,he⟩:=mem_at hx
 rw [←he];exact (h j hj).1
theorem ValidP_of{xs:List Int}{w n:Int}(h:ValidP xs w)(hl:xs.length≤w.toNat)(hw:w≤n∨w=0):ValidP xs n:=by
 rcases hw with hw|hw
 ·exact ValidP_mono h hw
 ·subst hw
  have:xs=[]:=List.eq_nil_of_length_eq_zero (by simpa using hl)
  subst this;exact ValidP_nil n
theorem Set_base{b:Nat}{lv:Value}{ls:List Int}{i:Int}(hl:∀q,Sl κ (deck b lv q::I) lv ls)(h0:0≤i){nodes:Int}(hn:nodes≤1000000000) :
    CallS Tryz.prog κ 28 [.pointer (some ⟨b,0,none⟩),I64 (nodes)] (blk b [lv,I64 (i)] 125::I) (fun r J=>∃y:Option Addr×Nat×List Int×Int,(r = .slice y.1 y.2.2.1.length y.2.1∧ValidP y.2.2.1 nodes∧(y.2.2.1.length:Int)≤max nodes 0∧0≤y.2.2.2)∧J=[vc 3 (.slice y.1 y.2.2.1.length y.2.1) y.2.2.1]++deck b lv y.2.2.2::I):=by
 refine Ce2 Tryz.func28 rfl rfl ?_
 refine Ah (Ga rfl (Af (Ah (Ga rfl (Af (Ap (Ah (Ga rfl (Af (A3 (Bv (σ:=Int×Int×(Option Addr)×Nat×(List Int)) (fun s=>([(0,.pointer (some ⟨b,0,none⟩)),(1,I64 (nodes)),(5,.slice s.2.2.1 s.2.2.2.2.length s.2.2.2.1),(6,I64 (s.1))]:Env)) (fun s=>vc 3 (.slice s.2.2.1 s.2.2.2.2.length s.2.2.2.1) (s.2.2.2.2)::blk b [lv,I64 (s.2.1)] 125::I) (fun s=>(0≤s.1∧(s.1≤nodes∨s.1=0))∧(0≤s.2.1)∧(ValidP s.2.2.2.2 s.1)∧(s.2.2.2.2.length≤s.1.toNat)) (fun s=>(nodes - s.1).toNat) (0,i,none,0,[]) (show (0≤(0:Int)∧((0:Int)≤nodes∨(0:Int)=0))∧(0≤(i:Int))∧(ValidP ([]:List Int) (0:Int))∧(([]:List Int).length≤(0:Int).toNat) from ⟨⟨by omega,.inr rfl⟩,om,(ValidP_nil _),(Nat.le_refl _)⟩) (Ab rfl (Ab rfl (Ab (C1 rfl (by first|rfl|simp)) (Ab Cc Bj)))) (show Fit κ _ (vc 3 (.slice (none) ([]).length (0)) (([]))::blk b [lv,I64 ((i))] 125::I) from (Bx _ _)) ?_)))))))))))
 rintro ⟨w,q,a,c,out⟩ hp
 dsimp only at hp ⊢
 obtain ⟨hw,hq,hv,hol⟩:=hp
 refine Ap (Ah (Gm rfl (Gm rfl (Gr (Bb rfl rfl) (Af (A9 rfl (fun c9=>?_) (fun c9=>?_)))))))
 ·refine A1 (Ai (Ap (A3 (Ah (Gm rfl (G.e (Al call19 rfl rfl (Next_ok (by repeat (first|exact AtF.head _ _|apply AtF.tail)) (Bz (hl _) Ax) om om)) ?_))))))
  rintro _ _ ⟨_,_,⟨x1,i2,rfl,hx1,hi2,rfl⟩,rfl,rfl⟩
  show G Tryz.prog κ _ _ _ _ ([(13,I64 (x1)),(12,.pointer (some ⟨b,0,none⟩)),(9,.bool (decide (w<nodes))),(8,I64 (nodes)),(7,I64 (w)),(0,.pointer (some ⟨b,0,none⟩)),(1,I64 (nodes)),(5,.slice a out.length c),(6,I64 (w))]:Env) (vc 3 (.slice a out.length c) (out)::blk b [lv,I64 (i2)] 125::I)
  refine Gr (Bm rfl rfl) (Af (A9 rfl (fun c14=>?_) (fun c14=>?_)))
  ·refine A2 (Gm rfl (Gm rfl (Ge1 (B8 (α:=Int) (cs:=[_]) (xs:=[w]) Aa ty3 rfl rfl dc dc rfl rfl rfl rfl) fun ad3=>?_)))
   refine Ge2 (Ch (α:=Int) (e:=3) (xs:=out) (ys:=([w]:List Int)) Aa ty3 rfl rfl rfl mm Bf lcn dc rfl (fun _ _=>am)) fun ad4 cp5=>?_
   exact Ga rfl (Bh (Aj (Ai (Ar (S4 5 0 1 6 rfl rfl rfl rfl) (A2 (Gm rfl (Gr (Rad rfl rfl) (Ga rfl (Bh (B7 ((w+1),(i2),(ad4),(cp5),(out++([w]:List Int))) (by dsimp only;exact ⟨om,om,(by first|exact ValidP_push hv hw.1|exact ValidP_mono hv om),olp⟩)))))))))))
  ·exact A1 (Aj (Ai (A2 (Gm rfl (Gr (Rad rfl rfl) (Ga rfl (Bh (B7 ((w+1),(i2),(a),(c),(out)) (by dsimp only;exact ⟨om,om,(by first|exact ValidP_push hv hw.1|exact ValidP_mono hv om),olp⟩)))))))))
 ·exact Bs (Am (Am (A7 (Ai (Ah (Gm rfl (Ga rfl (Af (Az (A4 rfl rfl (_) Ax ⟨(a,c,out,q),⟨rfl,ValidP_of hv hol hw.2,by show (out.length:Int)≤max nodes 0;omega,hq⟩,rfl⟩))))))))))
theorem Set_at{F:Item→List Item}{b:Nat}{lv:Value}{ls:List Int}{i:Int}(hat:AtF I (deck b lv i) F)(hl:∀q,Sl κ (F (deck b lv q)) lv ls)(h0:0≤i){nodes:Int}(hn:nodes≤1000000000) :
  CallS Tryz.prog κ 28 [.pointer (some ⟨b,0,none⟩),I64 nodes] I fun r J=>∃a c out i',r = .slice a out.length c∧ValidP out nodes∧(out.length:Int)≤max nodes 0∧0≤i'∧J=vc 3 (.slice a out.length c) out::F (deck b lv i'):=
 (Dx (Post:=fun r (y:Option Addr×Nat×List Int×Int)=>r = .slice y.1 y.2.2.1.length y.2.1∧ValidP y.2.2.1 nodes∧(y.2.2.1.length:Int)≤max nodes 0∧0≤y.2.2.2) (Z:=fun y:Option Addr×Nat×List Int×Int=>[vc 3 (.slice y.1 y.2.2.1.length y.2.1) y.2.2.1]) (X:=fun y:Option Addr×Nat×List Int×Int=>deck b lv y.2.2.2) hat fun J _ hF=>Set_base (fun q=>(hl q).fit (hF _)) h0 hn).mono fun _ _ ⟨y,⟨h1,h2,h3,h4⟩,h5⟩=>⟨y.1,y.2.1,y.2.2.1,y.2.2.2,h1,h2,h3,h4,h5⟩
structure Arc where
 frm:Int
 dst:Int
 cap:Int
deriving Inhabited
instance:Enc Arc:=⟨fun a=>[I64 a.frm,I64 a.dst,I64 a.cap],3,by omega,fun _=>rfl,fun a u h=>by
 simp only [List.mem_cons,List.not_mem_nil,or_false] at h
 rcases h with rfl|rfl|rfl<;>rfl⟩
structure Net where
 nodes:Int
 source:Int
 sink:Int
 arcs:List Arc
structure Net.Ok (n:Net):Prop where
 lim:n.nodes≤4200∧n.arcs.length≤16384
 two:2≤n.nodes
 src:0≤n.source∧n.source<n.nodes
 snk:0≤n.sink∧n.sink<n.nodes
 ne:n.source≠n.sink
 arc:∀a∈n.arcs,(0≤a.frm∧a.frm<n.nodes)∧(0≤a.dst∧a.dst<n.nodes)∧a.frm≠a.dst∧0≤a.cap∧a.cap≤1099511627776
end Go.Sl
namespace Go.Sl
open Go.Proofs Go.Shelf Go.RowKit Go.Lib Go.Sort
section
variable {α:Type}[Enc α][Inhabited α]
theorem flat_cells(d:Array α):flatK Enc.enc (Enc.sz α) d=(cells d.toList).toArray:=by
 apply Array.ext
 ·simp [cells_length]
 ·intro t h1 h2
  have h1':t<d.size*Enc.sz α:=by simpa using h1
  have hpos:0<Enc.sz α:=Enc.pos
  have hi:t / Enc.sz α<d.size:=Nat.div_lt_of_lt_mul (by rw [Nat.mul_comm];exact h1')
  have hj:t % Enc.sz α<Enc.sz α:=Nat.mod_lt _ hpos
  have e1:t=t / Enc.sz α*Enc.sz α+t % Enc.sz α:=by rw [Nat.mul_comm];exact (Nat.div_add_mod t (Enc.sz α)).symm
  have e2:=cells_get d.toList (t / Enc.sz α) (t % Enc.sz α) (by simpa using hi) hj
  rw [←e1] at e2
  have e3:(cells d.toList)[t]? = some ((cells d.toList)[t]'(by simpa using h2)):=List.getElem?_eq_getElem _
  rw [e3] at e2
  have hlen:t % Enc.sz α<(Enc.enc (d.toList[t / Enc.sz α]'(by simpa using hi))).length:=by rw [Enc.len];exact hj
  rw [List.getElem?_eq_getElem hlen] at e2
  have e4:=Option.some.inj e2
  simp only [List.getElem_toArray]
  rw [e4]
  simp [flatK,getElem!_pos,hi,Enc.len,hj]
theorem sort_base{P:Program}{ρ:Ren}{κ:Ctx}{I:List Item}(L:SlLaysF0.n6 P ρ)(aE:∀w,(isAgg (ρ.t 24)).run P w = .ok true w)(zE:∀w,(Go.sizeOf (ρ.t 24)).run P w = .ok (Enc.sz α) w)(cf:α→α→Int)(hO:SWO (ltOf cf))(g:Nat)(cb:Array Value)
  (eg:∀args w,(callFunc g args).run P w = .ok (.enter g args) w) (hcmp:∀(x y:α) (W:World),Calls P g (#[.agg (Enc.enc x).toArray,.agg (Enc.enc y).toArray]++cb) W fun e w'=>e = .returned (.int .i64 (cf x y))∧∃q os',w'=grow (W.drewN q) os')
  {e:TypeId} {ad:Option Addr} {c:Nat} {xs:List α} (hc:0<c) (hsz:xs.length<4611686018427387904) :
  CallS P κ (ρ.f 6) [.slice ad xs.length c,.func (.func g) #[] cb] (vc e (.slice ad xs.length c) xs::I) fun r J=>∃ys:List α,(r = .tuple #[]∧ys.Perm xs∧ys.Pairwise fun a b=>ltOf cf b a=false)∧J=[]++vc e (.slice ad ys.length c) ys::I:=by
 intro w hs
 obtain ⟨hok,_⟩:=hs.ok _ List.mem_cons_self
 obtain ⟨a',cap',hv,hl,hnc,hcm,hcap⟩:=hok
 cases hv
 obtain ⟨b,off,cur,rfl,hb,hsize,hcur⟩:=hcap hc
 have hbw:b<w.heap.size:=(Array.getElem?_eq_some_iff.1 hb).1
 have hcl:=cells_length xs
 have hle:xs.length*Enc.sz α≤c*Enc.sz α:=Nat.mul_le_mul_right _ hnc
 have hH:HoldsK Enc.enc (Enc.sz α) w b off xs.toArray:=fun j hj=>by
  rw [flat_cells] at hj ⊢
  have hj':j<(cells xs).length:=by simpa using hj
  have h1:=hcur j ((cells xs)[j]) (List.getElem?_eq_getElem hj')
  refine ⟨?_,by simp [World.frozen?,hb]⟩
  rw [cell_of_row w b (off+j) cur e (0,0) hb,h1]
  simp [getElem!_pos,hj']
 have h:=AnyQ.slices_SortFunc L (Enc.sz α) aE zE Enc.enc Enc.len Enc.one cf hO g cb b off c xs.toArray w eg (fun m os dk _ x y=>hcmp x y _) hH hbw (by simpa using hsz)
 refine Calls.mono h ?_
 rintro e' w' ⟨rfl,d',n,os,⟨hs1,_,hperm⟩,hsort,rfl⟩
 have hs1':d'.size=xs.length:=by simpa using hs1
 have hperm':d'.toList.Perm xs:=by
  have e1:d'.extract 0 xs.toArray.size=d':=by rw [←hs1];simp
  have e2:xs.toArray.extract 0 xs.toArray.size=xs.toArray:=by simp
  rw [e1,e2] at hperm
  exact hperm
 have hlen:d'.toList.length=xs.length:=by simpa using hs1'
 refine ⟨_,_,rfl,⟨d'.toList,⟨rfl,hperm',?_⟩,rfl⟩,?_⟩
 ·rw [List.pairwise_iff_getElem]
  intro i j hi hj hij
  have:=hsort i j (Nat.zero_le _) hij (by simpa [hs1'] using hj)
  simp only [Array.length_toList] at hi hj
  rw [getElem!_pos d' i hi,getElem!_pos d' j hj] at this
  simpa using this
 ·show Sep κ _ (vc e (.slice (some ⟨b,off,none⟩) d'.toList.length c) d'.toList::I)
  refine hs.upd (At.head _ _ _) rfl ⟨rfl,by simp [sortWorldK,putRowK,Sort.grow]⟩ rfl (by simp [sortWorldK,putRowK]) (fun k hk hne=>?_) ?_ fun k hk=> .inl ?_
  ·have hkb:k≠b:=fun ekb=>hne (by subst ekb;exact ⟨off,xs.length,c,rfl,hc⟩)
   simp only [sortWorldK,Sort.grow,putRowK,putRow,mapBlock]
   rw [Array.getElem?_append_left (by simpa using hk),Array.getElem?_modify,if_neg (fun e=>hkb e.symm)]
   rfl
  ·refine ⟨_,c,rfl,cells_length _,by rw [hlen];exact hnc,hcm,fun _=>⟨b,off,putCells id off (flatK Enc.enc (Enc.sz α) d') cur,rfl,?_,?_,fun j u hj=>?_⟩⟩
   ·simp only [sortWorldK,Sort.grow,putRowK,putRow,mapBlock]
    rw [Array.getElem?_append_left (by simpa using hbw),Array.getElem?_modify,if_pos rfl]
    show (w.heap[b]?).map _=_
    rw [hb];rfl
   ·simpa [putCells] using hsize
   ·have hj':j<(cells d'.toList).length:=(List.getElem?_eq_some_iff.1 hj).1
    have hj2:j<xs.length*Enc.sz α:=by rw [cells_length,hlen] at hj';exact hj'
    have hoff:off+j<cur.size:=by omega
    rw [flat_cells]
    simp only [putCells,Array.getElem?_mapIdx,Array.getElem?_eq_getElem hoff,Option.map_some]
    rw [if_pos ⟨by omega,by simpa using hj'⟩,Nat.add_sub_cancel_left]
    rw [List.getElem?_eq_getElem hj'] at hj
    simpa [getElem!_pos,hj'] using hj
  ·obtain ⟨o',n',c',hv',hc'⟩:=hk
   cases hv'
   exact ⟨off,xs.length,c,rfl,hc⟩
theorem sort_any{P:Program}{ρ:Ren}{κ:Ctx}{I:List Item}(L:SlLaysF0.n6 P ρ)(aE:∀w,(isAgg (ρ.t 24)).run P w = .ok true w)(zE:∀w,(Go.sizeOf (ρ.t 24)).run P w = .ok (Enc.sz α) w)(cf:α→α→Int)(hO:SWO (ltOf cf))(g:Nat)(cb:Array Value)
  (eg:∀args w,(callFunc g args).run P w = .ok (.enter g args) w) (hcmp:∀(x y:α) (W:World),Calls P g (#[.agg (Enc.enc x).toArray,.agg (Enc.enc y).toArray]++cb) W fun e w'=>e = .returned (.int .i64 (cf x y))∧∃q os',w'=grow (W.drewN q) os')
  {e:TypeId} {ad:Option Addr} {c:Nat} {xs:List α} (hsz:xs.length<4611686018427387904) :
  CallS P κ (ρ.f 6) [.slice ad xs.length c,.func (.func g) #[] cb] (vc e (.slice ad xs.length c) xs::I) fun r J=>∃ys:List α,(r = .tuple #[]∧ys.Perm xs∧ys.Pairwise fun a b=>ltOf cf b a=false)∧J=[]++vc e (.slice ad ys.length c) ys::I:=by
 by_cases hc:0<c
 ·exact sort_base L aE zE cf hO g cb eg hcmp hc hsz
 ·intro w hs
  obtain ⟨hok,_⟩:=hs.ok _ List.mem_cons_self
  obtain ⟨a',cap',hv,hl,hnc,hcm,hcap⟩:=hok
  cases hv
  obtain rfl:xs=[]:=List.eq_nil_of_length_eq_zero (by omega)
  refine Calls.mono (AnyF.slices_SortFunc_none L ad c _ w) ?_
  rintro e' w' ⟨rfl,rfl⟩
  exact ⟨_,_,rfl,⟨[],⟨rfl,List.Perm.nil,List.Pairwise.nil⟩,rfl⟩,hs⟩
end
theorem lays_of{P:Program}{f:FuncId}{args:List Value}{v:Value}{W:World}(h:CallS P ⟨W.os,W.tape,W.output,W.drawn⟩ f args [old W.heap.size W] fun r J=>r=v∧[old W.heap.size W]=J) :
  Calls P f args.toArray W fun e w'=>e = .returned v∧∃q os',w'=Sort.grow (W.drewN q) os':=(h W (Sep.begin W)).mono fun e w' ⟨r,J,he,⟨hv,hJ⟩,hs⟩=>by
 subst hv hJ
 refine ⟨he,w'.drawn - W.drawn,w'.heap.extract W.heap.size w'.heap.size,?_⟩
 have hb:=hs.below List.mem_cons_self
 have hok:∀k,k<W.heap.size→w'.heap[k]? = W.heap[k]? :=(hs.ok _ List.mem_cons_self).1
 have hd:=hs.tape.2
 have hheap:w'.heap=W.heap++w'.heap.extract W.heap.size w'.heap.size:=by
  apply Array.ext_getElem?
  intro k
  by_cases hk:k<W.heap.size
  ·rw [Array.getElem?_append_left hk];exact hok k hk
  ·rw [Array.getElem?_append_right (by omega),Array.getElem?_extract]
   have hsz:=hb.size
   by_cases hk2:k<w'.heap.size
   ·rw [if_pos (by omega)];congr 1;omega
   ·rw [Array.getElem?_eq_none (by omega)]
    split
    ·omega
    ·rfl
 have e:W.drawn+(w'.drawn - W.drawn)=w'.drawn:=by have:W.drawn≤w'.drawn:=hd;omega
 have hos:w'.os=W.os:=hs.os
 have htp:w'.tape=W.tape:=hs.tape.1
 have hou:w'.output=W.output:=hs.output
 obtain ⟨heap',tape',drawn',os',out'⟩:=w'
 simp only [Sort.grow,World.drewN] at *
 subst hos htp hou
 rw [e,←hheap]
end Go.Sl
namespace Go.Proofs
def Tryz.sort321_ren:Go.Shelf.Ren:=⟨fun |6=>321|15=>218|14=>337|28=>269|29=>270|20=>343|21=>344|22=>345|23=>346|24=>347|25=>348|26=>349|27=>350|46=>352|47=>305|48=>306|49=>353|50=>354|57=>355|n=>n,fun |22=>109|24=>146|25=>279|3=>3|39=>181|0=>0|53=>291|55=>175|4=>4|46=>285|45=>284|50=>273|5=>5|9=>9|66=>320|70=>324|76=>346|77=>259|n=>n,fun |n=>n⟩
theorem Tryz.sort321:Go.Proofs.SlLaysF0.n6 Tryz.prog Tryz.sort321_ren:={
 mixed:=by kernel_rfl,
 f6:=⟨Tryz.f321.name,by decide,Tryz.func321.trans (congrArg some (by kernel_rfl))⟩,
 f14:=⟨Tryz.f337.name,by decide,Tryz.func337.trans (congrArg some (by kernel_rfl))⟩,
 f15:=Tryz.func218.trans (congrArg some (by kernel_rfl)),
 f20:=⟨Tryz.f343.name,by decide,Tryz.func343.trans (congrArg some (by kernel_rfl))⟩,
 f21:=⟨Tryz.f344.name,by decide,Tryz.func344.trans (congrArg some (by kernel_rfl))⟩,
 f22:=⟨Tryz.f345.name,by decide,Tryz.func345.trans (congrArg some (by kernel_rfl))⟩,
 f23:=⟨Tryz.f346.name,by decide,Tryz.func346.trans (congrArg some (by kernel_rfl))⟩,
 f24:=⟨Tryz.f347.name,by decide,Tryz.func347.trans (congrArg some (by kernel_rfl))⟩,
 f25:=⟨Tryz.f348.name,by decide,Tryz.func348.trans (congrArg some (by kernel_rfl))⟩,
 f26:=⟨Tryz.f349.name,by decide,Tryz.func349.trans (congrArg some (by kernel_rfl))⟩,
 f27:=⟨Tryz.f350.name,by decide,Tryz.func350.trans (congrArg some (by kernel_rfl))⟩,
 f28:=Tryz.func269.trans (congrArg some (by kernel_rfl)),
 f29:=Tryz.func270.trans (congrArg some (by kernel_rfl)),
 f46:=⟨Tryz.f352.name,by decide,Tryz.func352.trans (congrArg some (by kernel_rfl))⟩,
 f47:=Tryz.func305.trans (congrArg some (by kernel_rfl)),
 f48:=Tryz.func306.trans (congrArg some (by kernel_rfl)),
 f49:=⟨Tryz.f353.name,by decide,Tryz.func353.trans (congrArg some (by kernel_rfl))⟩,
 f50:=⟨Tryz.f354.name,by decide,Tryz.func354.trans (congrArg some (by kernel_rfl))⟩,
 f57:=⟨Tryz.f355.name,by decide,Tryz.func355.trans (congrArg some (by kernel_rfl))⟩,
 t0:=Tryz.underlying0,
 a0:=Tryz.isAgg0,
 z0:=Tryz.sizeOf0,
 v0:=Tryz.zeroValue0,
 t3:=Tryz.underlying3,
 a3:=Tryz.isAgg3,
 z3:=Tryz.sizeOf3,
 v3:=Tryz.zeroValue3,
 t4:=Tryz.underlying4,
 a4:=Tryz.isAgg4,
 z4:=Tryz.sizeOf4,
 v4:=Tryz.zeroValue4,
 t5:=Tryz.underlying5,
 a5:=Tryz.isAgg5,
 z5:=Tryz.sizeOf5,
 v5:=Tryz.zeroValue5,
 t9:=Tryz.underlying9,
 a9:=Tryz.isAgg9,
 z9:=Tryz.sizeOf9,
 v9:=Tryz.zeroValue9,
 t22:=Tryz.underlying109,
 a22:=Tryz.isAgg109,
 z22:=Tryz.sizeOf109,
 v22:=Tryz.zeroValue109,
 t25:=Tryz.underlying279,
 a25:=Tryz.isAgg279,
 z25:=Tryz.sizeOf279,
 v25:=Tryz.zeroValue279,
 t39:=Tryz.underlying181,
 a39:=Tryz.isAgg181,
 z39:=Tryz.sizeOf181,
 v39:=Tryz.zeroValue181,
 t45:=Tryz.underlying284,
 a45:=Tryz.isAgg284,
 z45:=Tryz.sizeOf284,
 v45:=Tryz.zeroValue284,
 t46:=Tryz.underlying285,
 a46:=Tryz.isAgg285,
 z46:=Tryz.sizeOf285,
 v46:=Tryz.zeroValue285,
 t50:=Tryz.underlying273,
 a50:=Tryz.isAgg273,
 z50:=Tryz.sizeOf273,
 v50:=Tryz.zeroValue273,
 t53:=Tryz.underlying291,
 a53:=Tryz.isAgg291,
 z53:=Tryz.sizeOf291,
 v53:=Tryz.zeroValue291,
 t55:=Tryz.underlying175,
 a55:=Tryz.isAgg175,
 z55:=Tryz.sizeOf175,
 v55:=Tryz.zeroValue175,
 t66:=Tryz.underlying320,
 a66:=Tryz.isAgg320,
 z66:=Tryz.sizeOf320,
 v66:=Tryz.zeroValue320,
 t70:=Tryz.underlying324,
 a70:=Tryz.isAgg324,
 z70:=Tryz.sizeOf324,
 v70:=Tryz.zeroValue324,
 t76:=Tryz.underlying346,
 a76:=Tryz.isAgg346,
 z76:=Tryz.sizeOf346,
 v76:=Tryz.zeroValue346,
 t77:=Tryz.underlying259,
 a77:=Tryz.isAgg259,
 z77:=Tryz.sizeOf259,
 v77:=Tryz.zeroValue259}
end Go.Proofs
namespace Go.Sl
open Go.Proofs
set_option maxRecDepth 4000
theorem Order_ok{κ:Ctx}{I:List Item}(a c:Pt) :
    CallS Tryz.prog κ 154 [.agg #[I64 (a.u),I64 (a.v)],.agg #[I64 (c.u),I64 (c.v)]] I (fun r J=>r=I64 (Pt.cmp a c)∧I=J):=by
 refine Ce2 Tryz.func154 rfl rfl ?_
 refine Ah (Ge1 (Bc (cs:=[_,_]) rfl rfl rfl) fun b1=>Ge1 (Bc (cs:=[_,_]) rfl rfl rfl) fun b2=>Ga rfl (Af (Ap (Bd mixed (Bl (blk b2 [I64 (c.u),I64 (c.v)] 135::blk b1 [I64 (a.u),I64 (a.v)] 135::I) 12 (Dr 0 rfl (Ac fld135_0 rfl) (Dr 1 rfl (Av ty3) ?_)))))))
 refine Dr 2 rfl (Ac fld135_0 rfl) (Dr 3 rfl (Av ty3) ?_)
 refine Dr 5 rfl (Ac fld135_1 rfl) (Dr 6 rfl (Av ty3) ?_)
 refine Dr 7 rfl (Ac fld135_1 rfl) (Dr 8 rfl (Av ty3) ?_)
 refine Ds1 4 (Sc0 rfl (Al call225 rfl rfl (Compare_ok a.u c.u)) ?_)
 refine Ds1 9 (Sc0 rfl (Al call225 rfl rfl (Compare_ok a.v c.v)) ?_)
 refine Ds1 10 (Se1 rfl (B8 (α:=Int) (cs:=[_,_]) (xs:=[cmpI a.u c.u,cmpI a.v c.v]) Aa ty3 rfl rfl dc dc rfl rfl rfl rfl) fun ad3=>?_)
 refine Ds1 11 (Sc0 rfl (Al call224 rfl rfl (Or_ok Bf)) ?_)
 refine Cy kr ?_
 refine A.read (i:=12) kr rfl (B9 rfl) rfl rfl (A6 rfl) ?_
 refine Cz kr ?_
 exact Ai (Ar (S1 4 rfl) (Az (A4 rfl rfl (I) Ax ⟨by rw [←orL_cmp],rfl⟩)))
end Go.Sl
