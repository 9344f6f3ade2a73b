/- A part of the proofs of statements of this seat: contracts of functions, and the plain laws that they lean on. No conditions. -/
import Derived.Test.YtfkcohmipjhfcaaGreatDoorW4
import Derived.Shelf.SlSortCmp.NoneTotal
import Derived.Shelf.SlSortCmp.WholeK
set_option linter.unusedVariables false
set_option linter.unusedSimpArgs false
set_option linter.unusedSectionVars false
open Go.Proofs.Tryz (prog)
namespace Go.Sl
open Go.Proofs
theorem ty301:tyF prog 301=some (1,false,24,[.slice none 0 0]):=by kernel_rfl
theorem ty303:tyF prog 303=some (4,true,48,[e7 (0),e7 (0),e7 (0),.slice none 0 0]):=by kernel_rfl
theorem fld303_0:fldF prog 303 0=some 0:=by kernel_rfl
theorem fld303_1:fldF prog 303 1=some 1:=by kernel_rfl
theorem fld303_2:fldF prog 303 2=some 2:=by kernel_rfl
theorem fld303_3:fldF prog 303 3=some 3:=by kernel_rfl
theorem pl303(w:World):(placesRun prog 303).run prog w = .ok #[(0,1),(1,1),(2,1),(3,1)] w:=by kernel_rfl
theorem ty305:tyF prog 305=some (3,true,24,[e7 (0),e7 (0),e7 (0)]):=by kernel_rfl
theorem fld305_0:fldF prog 305 0=some 0:=by kernel_rfl
theorem fld305_1:fldF prog 305 1=some 1:=by kernel_rfl
theorem fld305_2:fldF prog 305 2=some 2:=by kernel_rfl
theorem pl305(w:World):(placesRun prog 305).run prog w = .ok #[(0,1),(1,1),(2,1)] w:=by kernel_rfl
theorem ty312:tyF prog 312=some (1,false,8,[.nilFunc]):=by kernel_rfl
theorem ty336:tyF prog 336=some (4,true,32,[e7 (0),e7 (0),e7 (0),e7 (0)]):=by kernel_rfl
theorem fld336_0:fldF prog 336 0=some 0:=by kernel_rfl
theorem fld336_1:fldF prog 336 1=some 3:=by kernel_rfl
theorem pl336(w:World):(placesRun prog 336).run prog w = .ok #[(0,3),(3,1)] w:=by kernel_rfl
theorem ty337:tyF prog 337=some (1,false,24,[.slice none 0 0]):=by kernel_rfl
theorem ty339:tyF prog 339=some (5,true,104,[.slice none 0 0,.slice none 0 0,.slice none 0 0,.slice none 0 0,e7 (0)]):=by kernel_rfl
theorem fld339_0:fldF prog 339 0=some 0:=by kernel_rfl
theorem fld339_1:fldF prog 339 1=some 1:=by kernel_rfl
theorem fld339_2:fldF prog 339 2=some 2:=by kernel_rfl
theorem fld339_3:fldF prog 339 3=some 3:=by kernel_rfl
theorem fld339_4:fldF prog 339 4=some 4:=by kernel_rfl
theorem pl339(w:World):(placesRun prog 339).run prog w = .ok #[(0,1),(1,1),(2,1),(3,1),(4,1)] w:=by kernel_rfl
theorem call16:callable prog 16=true:=by kernel_rfl
theorem call18:callable prog 18=true:=by kernel_rfl
theorem call19:callable prog 19=true:=by kernel_rfl
theorem call20:callable prog 20=true:=by kernel_rfl
theorem call21:callable prog 21=true:=by kernel_rfl
theorem call28:callable prog 28=true:=by kernel_rfl
theorem call41:callable prog 41=true:=by kernel_rfl
theorem call42:callable prog 42=true:=by kernel_rfl
theorem call44:callable prog 44=true:=by kernel_rfl
theorem call46:callable prog 46=true:=by kernel_rfl
theorem call47:callable prog 47=true:=by kernel_rfl
theorem call49:callable prog 49=true:=by kernel_rfl
theorem call50:callable prog 50=true:=by kernel_rfl
theorem call52:callable prog 52=true:=by kernel_rfl
theorem call54:callable prog 54=true:=by kernel_rfl
theorem call55:callable prog 55=true:=by kernel_rfl
theorem call56:callable prog 56=true:=by kernel_rfl
theorem call58:callable prog 58=true:=by kernel_rfl
theorem call59:callable prog 59=true:=by kernel_rfl
theorem call61:callable prog 61=true:=by kernel_rfl
theorem call76:callable prog 76=true:=by kernel_rfl
theorem call77:callable prog 77=true:=by kernel_rfl
theorem call78:callable prog 78=true:=by kernel_rfl
theorem call79:callable prog 79=true:=by kernel_rfl
theorem call83:callable prog 83=true:=by kernel_rfl
theorem call88:callable prog 88=true:=by kernel_rfl
theorem call89:callable prog 89=true:=by kernel_rfl
theorem call97:callable prog 97=true:=by kernel_rfl
theorem call98:callable prog 98=true:=by kernel_rfl
theorem call100:callable prog 100=true:=by kernel_rfl
theorem call101:callable prog 101=true:=by kernel_rfl
theorem call102:callable prog 102=true:=by kernel_rfl
theorem call104:callable prog 104=true:=by kernel_rfl
theorem call105:callable prog 105=true:=by kernel_rfl
theorem call106:callable prog 106=true:=by kernel_rfl
theorem call109:callable prog 109=true:=by kernel_rfl
theorem call110:callable prog 110=true:=by kernel_rfl
end Go.Sl
namespace Go.Sl
open Go.Proofs
theorem call139:callable prog 139=true:=by kernel_rfl
theorem call140:callable prog 140=true:=by kernel_rfl
theorem call141:callable prog 141=true:=by kernel_rfl
theorem call142:callable prog 142=true:=by kernel_rfl
theorem call143:callable prog 143=true:=by kernel_rfl
theorem call147:callable prog 147=true:=by kernel_rfl
theorem call149:callable prog 149=true:=by kernel_rfl
theorem call154:callable prog 154=true:=by kernel_rfl
theorem call157:callable prog 157=true:=by kernel_rfl
theorem call158:callable prog 158=true:=by kernel_rfl
theorem call165:callable prog 165=true:=by kernel_rfl
theorem call166:callable prog 166=true:=by kernel_rfl
theorem call167:callable prog 167=true:=by kernel_rfl
theorem call168:callable prog 168=true:=by kernel_rfl
theorem call169:callable prog 169=true:=by kernel_rfl
theorem call170:callable prog 170=true:=by kernel_rfl
theorem call171:callable prog 171=true:=by kernel_rfl
theorem call172:callable prog 172=true:=by kernel_rfl
theorem call173:callable prog 173=true:=by kernel_rfl
theorem call174:callable prog 174=true:=by kernel_rfl
theorem call175:callable prog 175=true:=by kernel_rfl
theorem call176:callable prog 176=true:=by kernel_rfl
theorem call177:callable prog 177=true:=by kernel_rfl
theorem call178:callable prog 178=true:=by kernel_rfl
theorem call179:callable prog 179=true:=by kernel_rfl
theorem call180:callable prog 180=true:=by kernel_rfl
theorem call181:callable prog 181=true:=by kernel_rfl
theorem call182:callable prog 182=true:=by kernel_rfl
theorem call183:callable prog 183=true:=by kernel_rfl
theorem call184:callable prog 184=true:=by kernel_rfl
theorem call185:callable prog 185=true:=by kernel_rfl
theorem call186:callable prog 186=true:=by kernel_rfl
theorem call187:callable prog 187=true:=by kernel_rfl
theorem call188:callable prog 188=true:=by kernel_rfl
theorem call189:callable prog 189=true:=by kernel_rfl
theorem call190:callable prog 190=true:=by kernel_rfl
theorem call191:callable prog 191=true:=by kernel_rfl
theorem call192:callable prog 192=true:=by kernel_rfl
theorem call193:callable prog 193=true:=by kernel_rfl
theorem call197:callable prog 197=true:=by kernel_rfl
theorem call198:callable prog 198=true:=by kernel_rfl
theorem call199:callable prog 199=true:=by kernel_rfl
theorem call200:callable prog 200=true:=by kernel_rfl
theorem call209:callable prog 209=true:=by kernel_rfl
theorem call210:callable prog 210=true:=by kernel_rfl
theorem call211:callable prog 211=true:=by kernel_rfl
theorem call212:callable prog 212=true:=by kernel_rfl
theorem call213:callable prog 213=true:=by kernel_rfl
theorem call214:callable prog 214=true:=by kernel_rfl
theorem call215:callable prog 215=true:=by kernel_rfl
theorem call216:callable prog 216=true:=by kernel_rfl
theorem call219:callable prog 219=true:=by kernel_rfl
theorem call220:callable prog 220=true:=by kernel_rfl
theorem call221:callable prog 221=true:=by kernel_rfl
theorem call222:callable prog 222=true:=by kernel_rfl
theorem call224:callable prog 224=true:=by kernel_rfl
theorem call225:callable prog 225=true:=by kernel_rfl
theorem call229:callable prog 229=true:=by kernel_rfl
theorem call230:callable prog 230=true:=by kernel_rfl
theorem call231:callable prog 231=true:=by kernel_rfl
theorem call232:callable prog 232=true:=by kernel_rfl
theorem call233:callable prog 233=true:=by kernel_rfl
theorem call234:callable prog 234=true:=by kernel_rfl
theorem call235:callable prog 235=true:=by kernel_rfl
theorem call236:callable prog 236=true:=by kernel_rfl
theorem call237:callable prog 237=true:=by kernel_rfl
theorem call238:callable prog 238=true:=by kernel_rfl
theorem call239:callable prog 239=true:=by kernel_rfl
theorem call240:callable prog 240=true:=by kernel_rfl
theorem call241:callable prog 241=true:=by kernel_rfl
theorem call242:callable prog 242=true:=by kernel_rfl
theorem call243:callable prog 243=true:=by kernel_rfl
theorem call244:callable prog 244=true:=by kernel_rfl
theorem call250:callable prog 250=true:=by kernel_rfl
theorem call251:callable prog 251=true:=by kernel_rfl
theorem call252:callable prog 252=true:=by kernel_rfl
theorem call253:callable prog 253=true:=by kernel_rfl
theorem call254:callable prog 254=true:=by kernel_rfl
theorem call255:callable prog 255=true:=by kernel_rfl
theorem call256:callable prog 256=true:=by kernel_rfl
theorem call257:callable prog 257=true:=by kernel_rfl
theorem call258:callable prog 258=true:=by kernel_rfl
theorem call259:callable prog 259=true:=by kernel_rfl
theorem call271:callable prog 271=true:=by kernel_rfl
theorem call272:callable prog 272=true:=by kernel_rfl
theorem call275:callable prog 275=true:=by kernel_rfl
theorem call276:callable prog 276=true:=by kernel_rfl
theorem call277:callable prog 277=true:=by kernel_rfl
theorem call280:callable prog 280=true:=by kernel_rfl
theorem call281:callable prog 281=true:=by kernel_rfl
theorem call282:callable prog 282=true:=by kernel_rfl
theorem call283:callable prog 283=true:=by kernel_rfl
theorem call284:callable prog 284=true:=by kernel_rfl
theorem call285:callable prog 285=true:=by kernel_rfl
theorem call286:callable prog 286=true:=by kernel_rfl
theorem call287:callable prog 287=true:=by kernel_rfl
theorem call288:callable prog 288=true:=by kernel_rfl
theorem call289:callable prog 289=true:=by kernel_rfl
theorem call291:callable prog 291=true:=by kernel_rfl
theorem call292:callable prog 292=true:=by kernel_rfl
theorem call293:callable prog 293=true:=by kernel_rfl
theorem call294:callable prog 294=true:=by kernel_rfl
theorem call295:callable prog 295=true:=by kernel_rfl
theorem call296:callable prog 296=true:=by kernel_rfl
theorem call297:callable prog 297=true:=by kernel_rfl
theorem call298:callable prog 298=true:=by kernel_rfl
theorem call299:callable prog 299=true:=by kernel_rfl
theorem call300:callable prog 300=true:=by kernel_rfl
theorem call301:callable prog 301=true:=by kernel_rfl
theorem call302:callable prog 302=true:=by kernel_rfl
theorem call303:callable prog 303=true:=by kernel_rfl
theorem call309:callable prog 309=true:=by kernel_rfl
theorem call314:callable prog 314=true:=by kernel_rfl
theorem call315:callable prog 315=true:=by kernel_rfl
theorem call317:callable prog 317=true:=by kernel_rfl
theorem call318:callable prog 318=true:=by kernel_rfl
theorem call319:callable prog 319=true:=by kernel_rfl
theorem call320:callable prog 320=true:=by kernel_rfl
theorem call321:callable prog 321=true:=by kernel_rfl
theorem call323:callable prog 323=true:=by kernel_rfl
theorem call333:callable prog 333=true:=by kernel_rfl
theorem call335:callable prog 335=true:=by kernel_rfl
theorem call336:callable prog 336=true:=by kernel_rfl
theorem call341:callable prog 341=true:=by kernel_rfl
theorem call342:callable prog 342=true:=by kernel_rfl
theorem mixed:prog.follows .mixedOrders=true:=by kernel_rfl
end Go.Sl

namespace Go.Sl
open Go.Proofs
set_option maxRecDepth 4000
variable {κ:Ctx}{I:List Item}
abbrev deck(b:Nat)(lv:Value)(i:Int):Item:=e8 b [lv,e7 i] 125
theorem Mod_ok{n k:Int}(h1:1<=k)(h2:k<=1000000000000):eu prog κ 76 [e7 n,e7 k] I (λr J=>∃x:Int,r=e7 x/\(0<=x/\x<k)/\I=J):=by
 have q1:=Int.tmod_lt_of_pos n (b:=k) om
 have q2:=Int.lt_tmod_of_pos n (b:=k) om
 refine Ce2 Tryz.func76 C C ?_
 refine Aj (Ga C (Ah (Aj (Gm C (Gm C (Gr (Runs.rem C C om) (Gm C (Gr (Rad C C) (Gm C (Gr (Runs.rem C C om) (Ga C (Ah (Az ?_)))))))))))))
 have t1:=Int.tmod_nonneg k (a:=Int.tmod n k+k) om
 have t2:=Int.tmod_lt_of_pos (Int.tmod n k+k) (b:=k) om
 exact Ba C C _ Ay ⟨_,rfl,⟨t1,t2⟩,rfl⟩
theorem Next_base{b:Nat}{lv:Value}{ls:List Int}{i:Int}(hl:Sl κ (deck b lv i::I) lv ls)(h0:0<=i){n:Int}(hn:n<=1000000000000):eu prog κ 19 [.pointer (some ⟨b,0,none⟩),e7 n] (e8 b [lv,e7 i] 125::I) (λr J=>∃y:Int×Int,(r=e7 y.1/\(0<=y.1/\(1<=n->y.1<n)/\(n<1->y.1=0))/\0<=y.2)/\J=[]++deck b lv y.2::I):=by
 refine Cg hl.le λhmax=>?_
 refine Ce2 Tryz.func19 C C ?_
 refine Aj (Ga C (Ah (Au (Au (Bt mixed (C7 14 (Dr 0 C (Af C) (Dr 1 C (Bi C C) (Dr 2 C (Af C) (D4 (d:=8) C (λg8=>?_) (λg8=>?_)))))))))))
 ·exact Dpo 3 C (Dpo 4 C (Dpo 5 C (Dpo 6 C (Dpo 7 C (Dpo 8 C (Dpo 9 C (Dpo 10 C (Dpo 11 C (Dpo 12 C (Dr 13 C (Ap C C) (Dz (Ai (Av (S3 19 0 1 C C C) (Do C (Aj (Ga C (Ah (Az (Ar (Ba C C _ Ay ⟨(0,i),⟨rfl,⟨Int.le_refl _,by intro _;show (0:Int)<n;omega,λ_=>rfl⟩,h0⟩,rfl⟩))))))))))))))))))))
 ·refine Dro 3 C (Af C) (Dro 4 C (Br C) (Dro 5 C (Ab fld125_1 C) (Dro 6 C (As ef) ?_)))
  refine Dro 7 C (Af C) (Dro 8 C (Br C) (Dro 9 C (Ab fld125_0 C) (Dro 10 C (As ty22) ?_)))
  refine Dro 11 C (Cb (α:=Int) (xs:=ls) Ad C (Bj hl)) (Dro 12 C (Cu C C) (Dr 13 C (Al C C) (Dz (Ai (Av (S3 19 0 1 C C C) (Bd C (λc19=>?_) (λc19=>?_)))))))
  ·exact Aj (Ga C (Ah (Az (Ar (Ba C C _ Ay ⟨(0,i),⟨rfl,⟨Int.le_refl _,by intro _;show (0:Int)<n;omega,λ_=>rfl⟩,h0⟩,rfl⟩)))))
  ·refine A4 (Ai (Au (Bt mixed (C7 11 (Dr 0 C (Af C) (Dr 1 C (Br C) (Dr 2 C (Ab fld125_0 C) (Dr 3 C (As ty22) ?_))))))))
   refine Dr 4 C (Af C) (Dr 5 C (Br C) (Dr 6 C (Ab fld125_1 C) (Dr 7 C (As ef) ?_)))
   refine Dr 8 C (A2 (α:=Int) (xs:=ls) Ad ef C C (Bj hl) om om) (Dr 9 C (B3 (xs:=ls) ef C (Bj hl) om om) (Dr 10 C (Bb C) (Dz (Ai (Av (S3 5 0 1 C C C) (Aj (Gm C (Gr (Br C) (Gf fld125_1 C (Gl ef ?_))))))))))
   refine Gr (Rad C C) (Gr (Br C) (Gf fld125_1 C (Ge0 (Es2_1 ef) ?_)))
   refine Ah (Aj (Gm C (Gm C (G.e (Am call76 C C (Mod_ok om om)) ?_))))
   rintro _ _ ⟨_,_,⟨x1,rfl,hx1,rfl⟩,rfl,rfl⟩
   exact Ga C (Ah (Av (S1 4 C) (Az (Ba C C _ Ay ⟨(x1,i+1),⟨rfl,⟨by omega,by omega,by omega⟩,by show 0<=i+1;omega⟩,rfl⟩))))
theorem Next_ok{F:Item->List Item}{b:Nat}{lv:Value}{ls:List Int}{i:Int}(hat:AtF I (deck b lv i) F)(hl:Sl κ I lv ls)(h0:0<=i){n:Int}(hn:n<=1000000000000):eu prog κ 19 [.pointer (some ⟨b,0,none⟩),e7 n] I λr J=>∃x i',r=e7 x/\(0<=x/\(1<=n->x<n)/\(n<1->x=0))/\0<=i'/\J=F (deck b lv i'):=
 (Ej (Z:=λ_=>[]) (X:=λy:Int×Int=>deck b lv y.2) hat λ_ hJ _=>Next_base (hl.fit hJ) h0 hn).mono λ_ _ ⟨y,⟨h1,h2,h3⟩,h4⟩=>⟨y.1,y.2,h1,h2,h3,h4⟩
theorem New_ok{a:Option Addr}{n c:Nat} :
    eu prog κ 18 [.slice a n c] I (λr J=>∃b,r = .pointer (some ⟨b,0,none⟩)/\J=deck b (.slice a n c) 0::I):=by
 refine Ce1 Tryz.func18 C C ?_
 exact Aj (Ga C (Ah (Aj (Gm C (Gr (Bc (cells:=[_,_]) ty125 Tryz.underlying125 pl125 C C) (Ge1 (Bg (cs:=[_,_]) C C C) λb1=>Ga C (Ah (Az (Ba C C _ Ay ⟨b1,rfl,rfl⟩)))))))))
def ValidP(xs:List Int)(nodes:Int):Prop:=∀j,j<xs.length->(0<=e_ xs j/\e_ xs j<nodes)/\(0<j->e_ xs ((j:Int) - 1)<e_ xs j)
instance (xs:List Int) (nodes:Int):Decidable (ValidP xs nodes):=by unfold ValidP;infer_instance
theorem NValid_ok{v:Value}{xs:List Int}(hl:Sl κ I v xs)(nodes:Int):eu prog κ 88 [v,e7 nodes] I (λr J=>r = .bool (decide (ValidP xs nodes))/\I=J):=by
 refine Cg hl.le λhmax=>?_
 refine Ce2 Tryz.func88 C C ?_
 refine Aj (Ga C (Ah (Au (Aj (Gm C (Gr (Cb (α:=Int) (xs:=xs) Ad C (Bj hl)) (Gm C (Ah (A6 (Ca (σ:=Nat) (λs=>([(0,v),(1,e7 nodes),(7,v),(8,e7 ((xs.length:Nat):Int)),(9,e7 ((s:Nat):Int))]:Env)) (λs=>I) (λs=>(s<=xs.length)/\(∀j,j<s->(0<=e_ xs j/\e_ xs j<nodes)/\(0<j->e_ xs ((j:Int) - 1)<e_ xs j))) (λs=>xs.length - s) 0 ⟨om,all_zero⟩ (Aa C (Aa C (Aa C (Aa C (Aa Cr Bq))))) (show Fit κ _ I from A5) ?_))))))))))
 rintro k hp
 obtain ⟨hk,hn⟩:=hp
 refine Aj (Gr (Bi C C) (Ah (Au (Bd C (λc10=>?_) (λc10=>?_)))))
 ·refine A4 (Ai (Au (A6 (Aj (Gm C (Gr (A2 (α:=Int) (xs:=xs) Ad ef C C (Bj hl) om om) (Gr (B3 (xs:=xs) ef C (Bj hl) om om) (Ga C (Ga C (Ah (Aj (Gm C (Gr (Bi C C) (Gm C (Bs (d:=16) C (λg16=>?_) (λg16=>?_))))))))))))))))
  ·refine eb (eb (eb (Gr (Ap C C) (Gm C (eb (eb (eb (ee (ee (ee (ee (ee (ee (ee (eb (Gr (Ap C C) (Ah (Av (S6 33 0 1 7 8 9 C C C C C C) (Do C (Aj (Ga C (Ah (Az (A3 (Ar (Ar (A3 (Ar ?_))))))))))))))))))))))))))))
   have hm:¬ValidP xs nodes:=λhv=>by have:=hv k om;omega
   exact Ba C C _ Ay ⟨by rw [decide_eq_false hm],rfl⟩
  ·refine e9 (Af C) (e9 (Af C) (e9 (Cu C C) (Gr (Al C C) (Gm C (Bs (d:=21) C (λg21=>?_) (λg21=>?_))))))
   ·refine eb (eb (eb (ee (ee (ee (ee (ee (ee (ee (eb (Gr (Ap C C) (Ah (Av (S6 33 0 1 7 8 9 C C C C C C) (Do C (Aj (Ga C (Ah (Az (A3 (Ar (Ar (A3 (Ar ?_)))))))))))))))))))))))
    have hm:¬ValidP xs nodes:=λhv=>by have:=hv k om;omega
    exact Ba C C _ Ay ⟨by rw [decide_eq_false hm],rfl⟩
   ·refine e9 (Af C) (e9 (Ci C C) (e9 (Af C) (Bs (d:=24) C (λg24=>?_) (λg24=>?_))))
    ·refine e9 (Af C) (e9 (Af C) (e9 (Rsu C C) (e9 (A2 (α:=Int) (xs:=xs) Ad ef C C (Bj hl) om om) (e9 (B3 (xs:=xs) ef C (Bj hl) om om) (e9 (Af C) (e9 (Cu C C) (e9 (Ap C C) (Gr (Al C C) (Ah (Av (S6 33 0 1 7 8 9 C C C C C C) (Bd C (λc33=>?_) (λc33=>?_))))))))))))
     ·refine Aj (Ga C (Ah (Az (A3 (Ar (Ar (A3 (Ar ?_))))))))
      have hm:¬ValidP xs nodes:=λhv=>by have:=hv k om;have:=this.2 om;omega
      exact Ba C C _ Ay ⟨by rw [decide_eq_false hm],rfl⟩
     ·exact A4 (Ak (Ai (A0 (Gr (Rad C C) (Gm C (Bf (Ch ((k+1)) ⟨om,(all_succ hn ⟨by omega,λ_=>by omega⟩)⟩)))))))
    ·exact eb (eb (eb (eb (eb (eb (eb (e9 (Al C C) (Gr (Al C C) (Ah (Av (S6 33 0 1 7 8 9 C C C C C C) (Eo C (A4 (Ak (Ai (A0 (Gr (Rad C C) (Gm C (Bf (Ch ((k+1)) ⟨om,(all_succ hn ⟨by omega,λ_=>by omega⟩)⟩)))))))))))))))))))
 ·refine Bp (Ac (Ac (Aw (Ai (Aj (Ga C (Ah (Az ?_))))))))
  have hm:ValidP xs nodes:=λj hj=>hn j om
  exact Ba C C _ Ay ⟨by rw [decide_eq_true hm],rfl⟩
variable {κ:Ctx}{I:List Item}
theorem IsNaN_ok(n:Int):eu prog κ 277 [e7 n] I (λr J=>r = .bool false/\I=J):=by
 refine Ce1 Tryz.func277 C C ?_
 exact Aj (Ga C (Ah (Aj (Gm C (Gm C (Gr (Bx C C) (Ga C (Ah (Az (Ba C C I Ay ⟨by simp,rfl⟩))))))))))
theorem Compare_ok(m n:Int):eu prog κ 225 [e7 m,e7 n] I (λr J=>r=e7 (cmpI m n)/\I=J):=by
 refine Ce2 Tryz.func225 C C ?_
 refine Aj (Ga C (Ah (Aj (Gm C (Gc0 (Am call277 C C (IsNaN_ok m)) ?_)))))
 refine Ga C (Ah (Aj (Gm C (Gc0 (Am call277 C C (IsNaN_ok n)) ?_))))
 refine Ga C (Ah (Au (Aj (Gm C (Ah (Eo C (A4 (Ai (Au (Aj (Gm C (Ah (Eo C (A4 (Ai (Au (Aj (Gm C (Gm C (Gr (Bi C C) (Ah (Av (S3 16 0 1 C C C) (Bd C (λc16=>?_) (λc16=>?_))))))))))))))))))))))))
 ·exact Aj (Ga C (Ah (Az (Ar (Ba C C I Ay ⟨by unfold cmpI;rw [if_pos c16],rfl⟩)))))
 ·refine A4 (Ai (Au (Aj (Gm C (Gm C (Gr (Ci C C) (Ah (Bd C (λc19=>?_) (λc19=>?_)))))))))
  ·exact Aj (Ga C (Ah (Az (Ar (Ba C C I Ay ⟨by unfold cmpI;rw [if_neg c16,if_pos c19],rfl⟩)))))
  ·exact A4 (Ai (Aj (Ga C (Ah (Az (Ba C C I Ay ⟨by unfold cmpI;rw [if_neg c16,if_neg c19],rfl⟩))))))
theorem Or_ok{v:Value}{xs:List Int}(hl:Sl κ I v xs):eu prog κ 224 [v] I (λr J=>r=e7 (orL xs)/\I=J):=by
 refine Cg hl.le λhmax=>?_
 refine Ce1 Tryz.func224 C C ?_
 refine Aj (Ga C (Ah (Aj (Ga C (Ah (Au (Aj (Gm C (Gr (Cb (α:=Int) (xs:=xs) Ad C (Bj hl)) (Gm C (Ah (A6 (Ca (σ:=Nat) (λs=>([(3,e7 0),(6,v),(7,e7 ((xs.length:Nat):Int)),(8,e7 ((s:Nat):Int))]:Env)) (λs=>I) (λs=>(s<=xs.length)/\(orL xs=orL (xs.drop s))) (λs=>xs.length - s) 0 ⟨om,rfl⟩ (Aa C (Aa C (Aa C (Aa Cr Bq)))) (show Fit κ _ I from A5) ?_)))))))))))))
 rintro k hp
 obtain ⟨hk,ho⟩:=hp
 refine Aj (Gr (Bi C C) (Ah (Au (Bd C (λc9=>?_) (λc9=>?_)))))
 ·refine A4 (Ai (Au (A6 (Aj (Gr (A2 (α:=Int) (xs:=xs) Ad ef C C (Bj hl) om om) (Gr (B3 (xs:=xs) ef C (Bj hl) om om) (Ga C (Ah (Aj (Gm C (Gm C (Gr (Bx C C) (Ah (Bd C (λc14=>?_) (λc14=>?_)))))))))))))))
  ·exact Aj (Gm C (Ga C (Ah (Az (A3 (Ar (Ar (A3 (Ar (Ba C C I Ay ⟨by rw [ho,orL_stop om c14],rfl⟩))))))))))
  ·exact A4 (Ak (Ai (A0 (Gr (Rad C C) (Gm C (Bf (Ch ((k+1)) ⟨om,(ho.trans (orL_step om (Decidable.of_not_not c14)))⟩)))))))
 ·exact Bp (Ac (Ac (Aw (Ai (Aj (Gm C (Ga C (Ah (Az (Ba C C I Ay ⟨by rw [ho,orL_end om],rfl⟩))))))))))
def cmpL:List Int->List Int->Int
 |[],[]=>0
 |[],_::_=> -1
 |_::_,[]=>1
 |x::xs,y::ys=>if y<x then 1 else if x<y then -1 else cmpL xs ys
theorem cmpL_eq:∀xs ys,cmpL xs ys=0↔xs=ys
 |[],[]=>by simp [cmpL]
 |[],_::_=>by simp [cmpL]
 |_::_,[]=>by simp [cmpL]
 |x::xs,y::ys=>by
  simp only [cmpL]
  split
  ·simp;omega
  ·split
   ·simp;omega
   ·rw [cmpL_eq xs ys]
    have:x=y:=by omega
    simp [this]
theorem cmpL_drop(xs ys:List Int)(k:Nat)(hx:k<xs.length)(hy:k<ys.length)(h1:¬e_ ys k<e_ xs k)(h2:¬e_ xs k<e_ ys k):cmpL (xs.drop k) (ys.drop k)=cmpL (xs.drop (k+1)) (ys.drop (k+1)):=by
 rw [Eu xs k hx,Eu ys k hy]
 simp only [cmpL]
 rw [if_neg h1,if_neg h2]
theorem cmpL_drop1(xs ys:List Int)(k:Nat)(hx:k<xs.length)(h:ys.length<=k\/(k<ys.length/\e_ ys k<e_ xs k)):cmpL (xs.drop k) (ys.drop k)=1:=by
 rw [Eu xs k hx]
 rcases h with h|⟨hy,h⟩
 ·rw [List.drop_eq_nil_of_le h];rfl
 ·rw [Eu ys k hy];simp only [cmpL];rw [if_pos h]
theorem cmpL_dropn(xs ys:List Int)(k:Nat)(hx:k<xs.length)(hy:k<ys.length)(h1:¬e_ ys k<e_ xs k)(h:e_ xs k<e_ ys k):cmpL (xs.drop k) (ys.drop k) = -1:=by
 rw [Eu xs k hx,Eu ys k hy];simp only [cmpL];rw [if_neg h1,if_pos h]
theorem cmpL_end(xs ys:List Int)(k:Nat)(hx:xs.length<=k):cmpL (xs.drop k) (ys.drop k)=if k<ys.length then -1 else 0:=by
 rw [List.drop_eq_nil_of_le hx]
 split
 ·rename_i h;rw [Eu ys k h];rfl
 ·rename_i h;rw [List.drop_eq_nil_of_le om];rfl
theorem Cmp_ok{κ:Ctx}{I:List Item}{u v:Value}{xs ys:List Int}(hu:Sl κ I u xs)(hv:Sl κ I v ys):eu prog κ 61 [u,v] I (λr J=>r=e7 (cmpL xs ys)/\I=J):=by
 refine Cg hu.le λhmax=>?_
 refine Cg hv.le λhmax2=>?_
 refine Ce2 Tryz.func61 C C ?_
 refine Aj (Ga C (Ah (Au (Aj (Gm C (Gr (Cb (α:=Int) (xs:=xs) Ad C (Bj hu)) (Gm C (Ah (A6 (Ca (σ:=Nat) (λs=>([(0,u),(1,v),(7,e7 ((xs.length:Nat):Int)),(8,e7 ((s:Nat):Int))]:Env)) (λs=>I) (λs=>(s<=xs.length)/\(cmpL xs ys=cmpL (xs.drop s) (ys.drop s))) (λs=>xs.length - s) 0 ⟨om,rfl⟩ (Aa C (Aa C (Aa C (Aa Cr Bq)))) (show Fit κ _ I from A5) ?_))))))))))
 rintro k hp
 obtain ⟨hk,hc⟩:=hp
 refine Aj (Gr (Bi C C) (Ah (Au (Bd C (λc9=>?_) (λc9=>?_)))))
 ·refine A4 (Ai (Au (A6 (Aj (Gm C (Ga C (Ah (A6 (Au (Bt mixed (C9 I 16 (Dr 0 C (Af C) (Dr 1 C (Af C) (Dr 2 C (Cb (α:=Int) (xs:=ys) Ad C (Bj hv)) (Dr 3 C (Cu C C) (Dr 4 C (Af C) (D4 (d:=16) C (λg16=>?_) (λg16=>?_))))))))))))))))))
  ·exact Dpo 5 C (Dpo 6 C (Dpo 7 C (Dpo 8 C (Dpo 9 C (Dpo 10 C (Dpo 11 C (Dpo 12 C (Dpo 13 C (Dr 14 C (Ap C C) (Dr 15 C (Bb C) (Dz (Ai (Av (S6 11 5 0 1 7 8 C C C C C C) (Do C (Aj (Ga C (Ah (Az (A3 (A3 (Ar (Ar (A3 (Ar (Ba C C _ Ay ⟨by rw [hc,cmpL_drop1 xs ys k om (.inl om)],rfl⟩)))))))))))))))))))))))))
  ·refine Dro 5 C (Af C) (Dro 6 C (Af C) (Dro 7 C (A2 (α:=Int) (xs:=xs) Ad ef C C (Bj hu) om om) (Dro 8 C (B3 (xs:=xs) ef C (Bj hu) om om) (Dro 9 C (Af C) (Dro 10 C (Af C) (Dro 11 C (A2 (α:=Int) (xs:=ys) Ad ef C C (Bj hv) om om) (Dro 12 C (B3 (xs:=ys) ef C (Bj hv) om om) (Dro 13 C (Ci C C) (Dr 14 C (Al C C) (Dr 15 C (Bb C) (Dz (Ai (Av (S6 11 5 0 1 7 8 C C C C C C) (Bd C (λc11=>?_) (λc11=>?_)))))))))))))))
   ·exact Aj (Ga C (Ah (Az (A3 (A3 (Ar (Ar (A3 (Ar (Ba C C _ Ay ⟨by rw [hc,cmpL_drop1 xs ys k om (.inr ⟨by omega,by omega⟩)],rfl⟩))))))))))
   ·refine Au (Bt mixed (C9 I 10 (Dr 0 C (Af C) (Dr 1 C (Af C) (Dr 2 C (A2 (α:=Int) (xs:=xs) Ad ef C C (Bj hu) om om) (Dr 3 C (B3 (xs:=xs) ef C (Bj hu) om om) (Dr 4 C (Af C) (Dr 5 C (Af C) (Dr 6 C (A2 (α:=Int) (xs:=ys) Ad ef C C (Bj hv) om om) (Dr 7 C (B3 (xs:=ys) ef C (Bj hv) om om) (Dr 8 C (Bi C C) (Dr 9 C (Bb C) (Dz (Ai (Av (S5 27 0 1 7 8 C C C C C) (Bd C (λc27=>?_) (λc27=>?_)))))))))))))))))
    ·exact Aj (Ga C (Ah (Az (A3 (A3 (Ar (Ar (A3 (Ar (Ba C C _ Ay ⟨by rw [hc,cmpL_dropn xs ys k om om om om],rfl⟩))))))))))
    ·exact A4 (Ak (Ak (Ai (A0 (Gr (Rad C C) (Gm C (Bf (Ch ((k+1)) ⟨om,(hc.trans (cmpL_drop xs ys k om om om om))⟩))))))))
 ·refine Bp (Ac (Ac (Aw (Ai (Au (Aj (Gm C (Gr (Cb (α:=Int) (xs:=xs) Ad C (Bj hu)) (Gm C (Gr (Cb (α:=Int) (xs:=ys) Ad C (Bj hv)) (Gr (Bi C C) (Ah (Bd C (λc42=>?_) (λc42=>?_))))))))))))))
  ·exact Aj (Ga C (Ah (Az (Ar (Ba C C _ Ay ⟨by rw [hc,cmpL_end xs ys k om,if_pos om],rfl⟩)))))
  ·exact A4 (Ai (Aj (Ga C (Ah (Az (Ba C C _ Ay ⟨by rw [hc,cmpL_end xs ys k om,if_neg om],rfl⟩))))))
def putL:List Int->Int->List Int
 |[],x=>[x]
 |y::ys,x=>if y<x then y::putL ys x else if y=x then y::ys else x::y::ys
def ofL(l:List Int):List Int:=l.foldl putL []
theorem mem_putL(x y:Int):∀l,y∈putL l x↔y=x\/y∈l
 |[]=>by simp [putL]
 |z::zs=>by
  simp only [putL]
  split
  ·simp only [List.mem_cons,mem_putL x y zs]
   constructor
   ·rintro (h|h|h)<;>simp [h]
   ·rintro (h|h|h)<;>simp [h]
  ·split
   ·rename_i e;subst e;simp
   ·simp
theorem mem_foldl_putL(y:Int):∀(l acc:List Int),y∈l.foldl putL acc↔y∈l\/y∈acc
 |[],acc=>by simp
 |x::l,acc=>by
  rw [List.foldl_cons,mem_foldl_putL y l,mem_putL]
  simp only [List.mem_cons]
  constructor
  ·rintro (h|h|h)<;>simp [h]
  ·rintro ((h|h)|h)<;>simp [h]
theorem mem_ofL(l:List Int)(y:Int):y∈ofL l↔y∈l:=by simp [ofL,mem_foldl_putL]
variable {κ:Ctx}{I:List Item}
theorem ValidP_nil(w:Int):ValidP [] w:=λj hj=>absurd hj (Nat.not_lt_zero j)
theorem ValidP_mono{xs:List Int}{w w':Int}(h:ValidP xs w)(hw:w<=w'):ValidP xs w':=λj hj=>⟨⟨(h j hj).1.1,by have:=(h j hj).1.2;omega⟩,(h j hj).2⟩
theorem ValidP_push{xs:List Int}{w:Int}(h:ValidP xs w)(h0:0<=w):ValidP (xs++[w]) (w+1):=λj hj=>by
 by_cases hl:j<xs.length
 ·obtain ⟨⟨h1,h2⟩,h3⟩:=h j hl
  rw [Eg xs [w] j hl]
  refine ⟨⟨h1,by omega⟩,λhp=>?_⟩
  have e:((j:Int) - 1)=((j - 1:Nat):Int):=by omega
  rw [e,Eg xs [w] (j - 1) om,←e]
  exact h3 hp
 ·obtain rfl:j=xs.length:=by simp at hj;omega
  rw [at_last]
  refine ⟨⟨h0,by omega⟩,λhp=>?_⟩
  have e:((xs.length:Int) - 1)=((xs.length - 1:Nat):Int):=by omega
  rw [e,Eg xs [w] (xs.length - 1) om]
  exact (h _ om).1.2
theorem ValidP_mem{xs:List Int}{w x:Int}(h:ValidP xs w)(hx:x∈xs):0<=x/\x<w:=by
 obtain ⟨j,hj,he⟩:=mem_at hx
 rw [←he];exact (h j hj).1
theorem ValidP_of{xs:List Int}{w n:Int}(h:ValidP xs w)(hl:xs.length<=w.toNat)(hw:w<=n\/w=0):ValidP xs n:=by
 rcases hw with hw|hw
 ·exact ValidP_mono h hw
 ·subst hw
  have:xs=[]:=List.eq_nil_of_length_eq_zero (by simpa using hl)
  subst this;exact ValidP_nil n
theorem Set_base{b:Nat}{lv:Value}{ls:List Int}{i:Int}(hl:∀q,Sl κ (deck b lv q::I) lv ls)(h0:0<=i){nodes:Int}(hn:nodes<=1000000000):eu prog κ 28 [.pointer (some ⟨b,0,none⟩),e7 nodes] (e8 b [lv,e7 i] 125::I) (λr J=>∃y:Option Addr×Nat×List Int×Int,(r = .slice y.1 y.2.2.1.length y.2.1/\ValidP y.2.2.1 nodes/\(y.2.2.1.length:Int)<=max nodes 0/\0<=y.2.2.2)/\J=[vc 3 (.slice y.1 y.2.2.1.length y.2.1) y.2.2.1]++deck b lv y.2.2.2::I):=by
 refine Ce2 Tryz.func28 C C ?_
 refine Aj (Ga C (Ah (Aj (Ga C (Ah (Au (Aj (Ga C (Ah (A6 (Ca (σ:=Int×Int×(Option Addr)×Nat×(List Int)) (λs=>([(0,.pointer (some ⟨b,0,none⟩)),(1,e7 nodes),(5,.slice s.2.2.1 s.2.2.2.2.length s.2.2.2.1),(6,e7 (s.1))]:Env)) (λs=>vc 3 (.slice s.2.2.1 s.2.2.2.2.length s.2.2.2.1) (s.2.2.2.2)::e8 b [lv,e7 (s.2.1)] 125::I) (λs=>(0<=s.1/\(s.1<=nodes\/s.1=0))/\(0<=s.2.1)/\(ValidP s.2.2.2.2 s.1)/\(s.2.2.2.2.length<=s.1.toNat)) (λs=>(nodes - s.1).toNat) (0,i,none,0,[]) ⟨⟨by omega,.inr rfl⟩,om,(ValidP_nil _),(Nat.le_refl _)⟩ (Aa C (Aa C (Aa (Da C (by first|rfl|simp)) (Aa Cr Bq)))) (B9 _ _) ?_)))))))))))
 rintro ⟨w,q,a,c,out⟩ hp
 dsimp only at hp ⊢
 obtain ⟨hw,hq,hv,hol⟩:=hp
 refine Au (Aj (Gm C (Gm C (Gr (Bi C C) (Ah (Bd C (λc9=>?_) (λc9=>?_)))))))
 ·refine A4 (Ai (Au (A6 (Aj (Gm C (G.e (Am call19 C C (Next_ok (by repeat (first|exact AtF.head _ _|apply AtF.tail)) (Ce (hl _) Ay) om om)) ?_))))))
  rintro _ _ ⟨_,_,⟨x1,i2,rfl,hx1,hi2,rfl⟩,rfl,rfl⟩
  refine Gr (Bl C C) (Ah (Bd C (λc14=>?_) (λc14=>?_)))
  ·refine A0 (Gm C (Gm C (Ge1 (Cj (α:=Int) (cs:=[_]) (xs:=[w]) Ad ef C C dc dc C C C C) λad3=>?_)))
   refine Ge2 (Cn (α:=Int) (e:=3) (xs:=out) (ys:=([w]:List Int)) Ad ef C C C mm Bk lcn dc C (λ_ _=>am)) λad4 cp5=>?_
   exact Ga C (Bf (Ak (Ai (Av (S4 5 0 1 6 C C C C) (A0 (Gm C (Gr (Rad C C) (Ga C (Bf (Ch ((w+1),(i2),(ad4),(cp5),(out++([w]:List Int))) (by dsimp only;exact ⟨om,om,(by first|exact ValidP_push hv hw.1|exact ValidP_mono hv om),olp⟩)))))))))))
  ·exact A4 (Ak (Ai (A0 (Gm C (Gr (Rad C C) (Ga C (Bf (Ch ((w+1),(i2),(a),(c),(out)) (by dsimp only;exact ⟨om,om,(by first|exact ValidP_push hv hw.1|exact ValidP_mono hv om),olp⟩)))))))))
 ·exact Bp (Ac (Ac (Aw (Ai (Aj (Gm C (Ga C (Ah (Az (Ba C C _ Ay ⟨(a,c,out,q),⟨rfl,ValidP_of hv hol hw.2,by show (out.length:Int)<=max nodes 0;omega,hq⟩,rfl⟩))))))))))
theorem Set_at{F:Item->List Item}{b:Nat}{lv:Value}{ls:List Int}{i:Int}(hat:AtF I (deck b lv i) F)(hl:∀q,Sl κ (F (deck b lv q)) lv ls)(h0:0<=i){nodes:Int}(hn:nodes<=1000000000):eu prog κ 28 [.pointer (some ⟨b,0,none⟩),e7 nodes] I λr J=>∃a c out i',r = .slice a out.length c/\ValidP out nodes/\(out.length:Int)<=max nodes 0/\0<=i'/\J=vc 3 (.slice a out.length c) out::F (deck b lv i'):=
 (Ej (Post:=λr (y:Option Addr×Nat×List Int×Int)=>r = .slice y.1 y.2.2.1.length y.2.1/\ValidP y.2.2.1 nodes/\(y.2.2.1.length:Int)<=max nodes 0/\0<=y.2.2.2) (Z:=λy:Option Addr×Nat×List Int×Int=>[vc 3 (.slice y.1 y.2.2.1.length y.2.1) y.2.2.1]) (X:=λy:Option Addr×Nat×List Int×Int=>deck b lv y.2.2.2) hat λJ _ hF=>Set_base (λq=>(hl q).fit (hF _)) h0 hn).mono λ_ _ ⟨y,⟨h1,h2,h3,h4⟩,h5⟩=>⟨y.1,y.2.1,y.2.2.1,y.2.2.2,h1,h2,h3,h4,h5⟩
structure Arc where
 frm:Int
 dst:Int
 cap:Int
deriving Inhabited
instance:Enc Arc:=⟨λa=>[e7 a.frm,e7 a.dst,e7 a.cap],3,by omega,λ_=>rfl,λa u h=>by
 simp only [List.mem_cons,List.not_mem_nil,or_false] at h
 rcases h with rfl|rfl|rfl<;>rfl⟩
structure Net where
 nodes:Int
 source:Int
 sink:Int
 arcs:List Arc
structure Net.Ok (n:Net):Prop where
 lim:n.nodes<=4200/\n.arcs.length<=16384
 two:2<=n.nodes
 src:0<=n.source/\n.source<n.nodes
 snk:0<=n.sink/\n.sink<n.nodes
 ne:n.source≠n.sink
 arc:∀a∈n.arcs,(0<=a.frm/\a.frm<n.nodes)/\(0<=a.dst/\a.dst<n.nodes)/\a.frm≠a.dst/\0<=a.cap/\a.cap<=1099511627776
end Go.Sl
namespace Go.Sl
open Go.Proofs Go.Shelf Go.RowKit Go.Lib Go.Sort
section
variable {α:Type}[Enc α][Inhabited α]
theorem flat_cells(d:Array α):flatK Enc.enc (Enc.sz α) d=(cells d.toList).toArray:=by
 apply Array.ext
 ·simp [cells_length]
 ·intro t h1 h2
  have h1':t<d.size*Enc.sz α:=by simpa using h1
  have hpos:0<Enc.sz α:=Enc.pos
  have hi:t / Enc.sz α<d.size:=Nat.div_lt_of_lt_mul (by rw [Nat.mul_comm];exact h1')
  have hj:t % Enc.sz α<Enc.sz α:=Nat.mod_lt _ hpos
  have e1:t=t / Enc.sz α*Enc.sz α+t % Enc.sz α:=by rw [Nat.mul_comm];exact (Nat.div_add_mod t (Enc.sz α)).symm
  have e2:=cells_get d.toList (t / Enc.sz α) (t % Enc.sz α) (by simpa using hi) hj
  rw [←e1] at e2
  have e3:(cells d.toList)[t]? = some ((cells d.toList)[t]'(by simpa using h2)):=List.getElem?_eq_getElem _
  rw [e3] at e2
  have hlen:t % Enc.sz α<(Enc.enc (d.toList[t / Enc.sz α]'(by simpa using hi))).length:=by rw [Enc.len];exact hj
  rw [List.getElem?_eq_getElem hlen] at e2
  have e4:=Option.some.inj e2
  simp only [List.getElem_toArray]
  rw [e4]
  simp [flatK,getElem!_pos,hi,Enc.len,hj]
theorem sort_base{P:Program}{ρ:Ren}{κ:Ctx}{I:List Item}(L:SlLaysF0.n6 P ρ)(aE:∀w,(isAgg (ρ.t 24)).run P w = .ok true w)(zE:∀w,(Go.sizeOf (ρ.t 24)).run P w = .ok (Enc.sz α) w)(cf:α->α->Int)(hO:SWO (ltOf cf))(g:Nat)(cb:Array Value)
  (eg:∀args w,(callFunc g args).run P w = .ok (.enter g args) w) (hcmp:∀(x y:α) (W:World),Calls P g (#[.agg (Enc.enc x).toArray,.agg (Enc.enc y).toArray]++cb) W λe w'=>e = .returned (.int .i64 (cf x y))/\∃q os',w'=grow (W.drewN q) os')
  {e:TypeId} {ad:Option Addr} {c:Nat} {xs:List α} (hc:0<c) (hsz:xs.length<4611686018427387904):eu P κ (ρ.f 6) [.slice ad xs.length c,.func (.func g) #[] cb] (vc e (.slice ad xs.length c) xs::I) λr J=>∃ys:List α,(r = .tuple #[]/\ys.Perm xs/\ys.Pairwise λa b=>ltOf cf b a=false)/\J=[]++vc e (.slice ad ys.length c) ys::I:=by
 intro w hs
 obtain ⟨hok,_⟩:=hs.ok _ List.mem_cons_self
 obtain ⟨a',cap',hv,hl,hnc,hcm,hcap⟩:=hok
 cases hv
 obtain ⟨b,off,cur,rfl,hb,hsize,hcur⟩:=hcap hc
 have hbw:b<w.heap.size:=(Array.getElem?_eq_some_iff.1 hb).1
 have hcl:=cells_length xs
 have hle:xs.length*Enc.sz α<=c*Enc.sz α:=Nat.mul_le_mul_right _ hnc
 have hH:HoldsK Enc.enc (Enc.sz α) w b off xs.toArray:=λj hj=>by
  rw [flat_cells] at hj ⊢
  have hj':j<(cells xs).length:=by simpa using hj
  have h1:=hcur j ((cells xs)[j]) (List.getElem?_eq_getElem hj')
  refine ⟨?_,by simp [World.frozen?,hb]⟩
  rw [cell_of_row w b (off+j) cur e (0,0) hb,h1]
  simp [getElem!_pos,hj']
 have h:=AnyQ.slices_SortFunc L (Enc.sz α) aE zE Enc.enc Enc.len Enc.one cf hO g cb b off c xs.toArray w eg (λm os dk _ x y=>hcmp x y _) hH hbw (by simpa using hsz)
 refine Calls.mono h ?_
 rintro e' w' ⟨rfl,d',n,os,⟨hs1,_,hperm⟩,hsort,rfl⟩
 have hs1':d'.size=xs.length:=by simpa using hs1
 have hperm':d'.toList.Perm xs:=by
  have e1:d'.extract 0 xs.toArray.size=d':=by rw [←hs1];simp
  have e2:xs.toArray.extract 0 xs.toArray.size=xs.toArray:=by simp
  rw [e1,e2] at hperm
  exact hperm
 have hlen:d'.toList.length=xs.length:=by simpa using hs1'
 refine ⟨_,_,rfl,⟨d'.toList,⟨rfl,hperm',?_⟩,rfl⟩,?_⟩
 ·rw [List.pairwise_iff_getElem]
  intro i j hi hj hij
  have:=hsort i j (Nat.zero_le _) hij (by simpa [hs1'] using hj)
  simp only [Array.length_toList] at hi hj
  rw [getElem!_pos d' i hi,getElem!_pos d' j hj] at this
  simpa using this
 ·show Sep κ _ (vc e (.slice (some ⟨b,off,none⟩) d'.toList.length c) d'.toList::I)
  refine hs.upd (At.head _ _ _) rfl ⟨rfl,by simp [sortWorldK,putRowK,Sort.grow]⟩ rfl (by simp [sortWorldK,putRowK]) (λk hk hne=>?_) ?_ λk hk=> .inl ?_
  ·have hkb:k≠b:=λekb=>hne (by subst ekb;exact ⟨off,xs.length,c,rfl,hc⟩)
   simp only [sortWorldK,Sort.grow,putRowK,putRow,mapBlock]
   rw [Array.getElem?_append_left (by simpa using hk),Array.getElem?_modify,if_neg (λe=>hkb e.symm)]
   rfl
  ·refine ⟨_,c,rfl,cells_length _,by rw [hlen];exact hnc,hcm,λ_=>⟨b,off,putCells id off (flatK Enc.enc (Enc.sz α) d') cur,rfl,?_,?_,λj u hj=>?_⟩⟩
   ·simp only [sortWorldK,Sort.grow,putRowK,putRow,mapBlock]
    rw [Array.getElem?_append_left (by simpa using hbw),Array.getElem?_modify,if_pos rfl]
    show (w.heap[b]?).map _=_
    rw [hb];rfl
   ·simpa [putCells] using hsize
   ·have hj':j<(cells d'.toList).length:=(List.getElem?_eq_some_iff.1 hj).1
    have hj2:j<xs.length*Enc.sz α:=by rw [cells_length,hlen] at hj';exact hj'
    have hoff:off+j<cur.size:=by omega
    rw [flat_cells]
    simp only [putCells,Array.getElem?_mapIdx,Array.getElem?_eq_getElem hoff,Option.map_some]
    rw [if_pos ⟨by omega,by simpa using hj'⟩,Nat.add_sub_cancel_left]
    rw [List.getElem?_eq_getElem hj'] at hj
    simpa [getElem!_pos,hj'] using hj
  ·obtain ⟨o',n',c',hv',hc'⟩:=hk
   cases hv'
   exact ⟨off,xs.length,c,rfl,hc⟩
theorem sort_any{P:Program}{ρ:Ren}{κ:Ctx}{I:List Item}(L:SlLaysF0.n6 P ρ)(aE:∀w,(isAgg (ρ.t 24)).run P w = .ok true w)(zE:∀w,(Go.sizeOf (ρ.t 24)).run P w = .ok (Enc.sz α) w)(cf:α->α->Int)(hO:SWO (ltOf cf))(g:Nat)(cb:Array Value)
  (eg:∀args w,(callFunc g args).run P w = .ok (.enter g args) w) (hcmp:∀(x y:α) (W:World),Calls P g (#[.agg (Enc.enc x).toArray,.agg (Enc.enc y).toArray]++cb) W λe w'=>e = .returned (.int .i64 (cf x y))/\∃q os',w'=grow (W.drewN q) os')
  {e:TypeId} {ad:Option Addr} {c:Nat} {xs:List α} (hsz:xs.length<4611686018427387904):eu P κ (ρ.f 6) [.slice ad xs.length c,.func (.func g) #[] cb] (vc e (.slice ad xs.length c) xs::I) λr J=>∃ys:List α,(r = .tuple #[]/\ys.Perm xs/\ys.Pairwise λa b=>ltOf cf b a=false)/\J=[]++vc e (.slice ad ys.length c) ys::I:=by
 by_cases hc:0<c
 ·exact sort_base L aE zE cf hO g cb eg hcmp hc hsz
 ·intro w hs
  obtain ⟨hok,_⟩:=hs.ok _ List.mem_cons_self
  obtain ⟨a',cap',hv,hl,hnc,hcm,hcap⟩:=hok
  cases hv
  obtain rfl:xs=[]:=List.eq_nil_of_length_eq_zero (by omega)
  refine Calls.mono (AnyF.slices_SortFunc_none L ad c _ w) ?_
  rintro e' w' ⟨rfl,rfl⟩
  exact ⟨_,_,rfl,⟨[],⟨rfl,List.Perm.nil,List.Pairwise.nil⟩,rfl⟩,hs⟩
end
theorem lays_of{P:Program}{f:FuncId}{args:List Value}{v:Value}{W:World}(h:eu P ⟨W.os,W.tape,W.output,W.drawn⟩ f args [old W.heap.size W] λr J=>r=v/\[old W.heap.size W]=J) :
  Calls P f args.toArray W λe w'=>e = .returned v/\∃q os',w'=Sort.grow (W.drewN q) os':=(h W (Sep.begin W)).mono λe w' ⟨r,J,he,⟨hv,hJ⟩,hs⟩=>by
 subst hv hJ
 refine ⟨he,w'.drawn - W.drawn,w'.heap.extract W.heap.size w'.heap.size,?_⟩
 have hb:=hs.below List.mem_cons_self
 have hok:∀k,k<W.heap.size->w'.heap[k]? = W.heap[k]? :=(hs.ok _ List.mem_cons_self).1
 have hd:=hs.tape.2
 have hheap:w'.heap=W.heap++w'.heap.extract W.heap.size w'.heap.size:=by
  apply Array.ext_getElem?
  intro k
  by_cases hk:k<W.heap.size
  ·rw [Array.getElem?_append_left hk];exact hok k hk
  ·rw [Array.getElem?_append_right (by omega),Array.getElem?_extract]
   have hsz:=hb.size
   by_cases hk2:k<w'.heap.size
   ·rw [if_pos (by omega)];congr 1;omega
   ·rw [Array.getElem?_eq_none (by omega)]
    split
    ·omega
    ·rfl
 have e:W.drawn+(w'.drawn - W.drawn)=w'.drawn:=by have:W.drawn<=w'.drawn:=hd;omega
 have hos:w'.os=W.os:=hs.os
 have htp:w'.tape=W.tape:=hs.tape.1
 have hou:w'.output=W.output:=hs.output
 obtain ⟨heap',tape',drawn',os',out'⟩:=w'
 simp only [Sort.grow,World.drewN] at *
 subst hos htp hou
 rw [e,←hheap]
end Go.Sl
namespace Go.Proofs
def Tryz.sort321_ren:Go.Shelf.Ren:=⟨fun |6=>321|15=>218|14=>337|28=>269|29=>270|20=>343|21=>344|22=>345|23=>346|24=>347|25=>348|26=>349|27=>350|46=>352|47=>305|48=>306|49=>353|50=>354|57=>355|n=>n,fun |22=>109|24=>146|25=>279|3=>3|39=>181|0=>0|53=>291|55=>175|4=>4|46=>285|45=>284|50=>273|5=>5|9=>9|66=>320|70=>324|76=>346|77=>259|n=>n,fun |n=>n⟩
theorem Tryz.sort321:Go.Proofs.SlLaysF0.n6 prog Tryz.sort321_ren:={
 mixed:=by kernel_rfl,
 f6:=⟨Tryz.f321.name,by decide,Tryz.func321.trans (congrArg some (by kernel_rfl))⟩,
 f14:=⟨Tryz.f337.name,by decide,Tryz.func337.trans (congrArg some (by kernel_rfl))⟩,
 f15:=Tryz.func218.trans (congrArg some (by kernel_rfl)),
 f20:=⟨Tryz.f343.name,by decide,Tryz.func343.trans (congrArg some (by kernel_rfl))⟩,
 f21:=⟨Tryz.f344.name,by decide,Tryz.func344.trans (congrArg some (by kernel_rfl))⟩,
 f22:=⟨Tryz.f345.name,by decide,Tryz.func345.trans (congrArg some (by kernel_rfl))⟩,
 f23:=⟨Tryz.f346.name,by decide,Tryz.func346.trans (congrArg some (by kernel_rfl))⟩,
 f24:=⟨Tryz.f347.name,by decide,Tryz.func347.trans (congrArg some (by kernel_rfl))⟩,
 f25:=⟨Tryz.f348.name,by decide,Tryz.func348.trans (congrArg some (by kernel_rfl))⟩,
 f26:=⟨Tryz.f349.name,by decide,Tryz.func349.trans (congrArg some (by kernel_rfl))⟩,
 f27:=⟨Tryz.f350.name,by decide,Tryz.func350.trans (congrArg some (by kernel_rfl))⟩,
 f28:=Tryz.func269.trans (congrArg some (by kernel_rfl)),
 f29:=Tryz.func270.trans (congrArg some (by kernel_rfl)),
 f46:=⟨Tryz.f352.name,by decide,Tryz.func352.trans (congrArg some (by kernel_rfl))⟩,
 f47:=Tryz.func305.trans (congrArg some (by kernel_rfl)),
 f48:=Tryz.func306.trans (congrArg some (by kernel_rfl)),
 f49:=⟨Tryz.f353.name,by decide,Tryz.func353.trans (congrArg some (by kernel_rfl))⟩,
 f50:=⟨Tryz.f354.name,by decide,Tryz.func354.trans (congrArg some (by kernel_rfl))⟩,
 f57:=⟨Tryz.f355.name,by decide,Tryz.func355.trans (congrArg some (by kernel_rfl))⟩,
 t0:=Tryz.underlying0,
 a0:=Tryz.isAgg0,
 z0:=Tryz.sizeOf0,
 v0:=Tryz.zeroValue0,
 t3:=Tryz.underlying3,
 a3:=Tryz.isAgg3,
 z3:=Tryz.sizeOf3,
 v3:=Tryz.zeroValue3,
 t4:=Tryz.underlying4,
 a4:=Tryz.isAgg4,
 z4:=Tryz.sizeOf4,
 v4:=Tryz.zeroValue4,
 t5:=Tryz.underlying5,
 a5:=Tryz.isAgg5,
 z5:=Tryz.sizeOf5,
 v5:=Tryz.zeroValue5,
 t9:=Tryz.underlying9,
 a9:=Tryz.isAgg9,
 z9:=Tryz.sizeOf9,
 v9:=Tryz.zeroValue9,
 t22:=Tryz.underlying109,
 a22:=Tryz.isAgg109,
 z22:=Tryz.sizeOf109,
 v22:=Tryz.zeroValue109,
 t25:=Tryz.underlying279,
 a25:=Tryz.isAgg279,
 z25:=Tryz.sizeOf279,
 v25:=Tryz.zeroValue279,
 t39:=Tryz.underlying181,
 a39:=Tryz.isAgg181,
 z39:=Tryz.sizeOf181,
 v39:=Tryz.zeroValue181,
 t45:=Tryz.underlying284,
 a45:=Tryz.isAgg284,
 z45:=Tryz.sizeOf284,
 v45:=Tryz.zeroValue284,
 t46:=Tryz.underlying285,
 a46:=Tryz.isAgg285,
 z46:=Tryz.sizeOf285,
 v46:=Tryz.zeroValue285,
 t50:=Tryz.underlying273,
 a50:=Tryz.isAgg273,
 z50:=Tryz.sizeOf273,
 v50:=Tryz.zeroValue273,
 t53:=Tryz.underlying291,
 a53:=Tryz.isAgg291,
 z53:=Tryz.sizeOf291,
 v53:=Tryz.zeroValue291,
 t55:=Tryz.underlying175,
 a55:=Tryz.isAgg175,
 z55:=Tryz.sizeOf175,
 v55:=Tryz.zeroValue175,
 t66:=Tryz.underlying320,
 a66:=Tryz.isAgg320,
 z66:=Tryz.sizeOf320,
 v66:=Tryz.zeroValue320,
 t70:=Tryz.underlying324,
 a70:=Tryz.isAgg324,
 z70:=Tryz.sizeOf324,
 v70:=Tryz.zeroValue324,
 t76:=Tryz.underlying346,
 a76:=Tryz.isAgg346,
 z76:=Tryz.sizeOf346,
 v76:=Tryz.zeroValue346,
 t77:=Tryz.underlying259,
 a77:=Tryz.isAgg259,
 z77:=Tryz.sizeOf259,
 v77:=Tryz.zeroValue259}
end Go.Proofs
namespace Go.Sl
open Go.Proofs
set_option maxRecDepth 4000
theorem Order_ok{κ:Ctx}{I:List Item}(a c:Pt):eu prog κ 154 [.agg #[e7 (a.u),e7 (a.v)],.agg #[e7 (c.u),e7 (c.v)]] I (λr J=>r=e7 (Pt.cmp a c)/\I=J):=by
 refine Ce2 Tryz.func154 C C ?_
 refine Aj (Ge1 (Bg (cs:=[_,_]) C C C) λb1=>Ge1 (Bg (cs:=[_,_]) C C C) λb2=>Ga C (Ah (Au (Bt mixed (C7 12 (Dr 0 C (Ab fld135_0 C) (Dr 1 C (As ef) ?_)))))))
 refine Dr 2 C (Ab fld135_0 C) (Dr 3 C (As ef) ?_)
 refine Dr 5 C (Ab fld135_1 C) (Dr 6 C (As ef) ?_)
 refine Dr 7 C (Ab fld135_1 C) (Dr 8 C (As ef) ?_)
 refine Ds1 4 (Sc0 C (Am call225 C C (Compare_ok a.u c.u)) ?_)
 refine Ds1 9 (Sc0 C (Am call225 C C (Compare_ok a.v c.v)) ?_)
 refine Ds1 10 (Se1 C (Cj (α:=Int) (cs:=[_,_]) (xs:=[cmpI a.u c.u,cmpI a.v c.v]) Ad ef C C dc dc C C C C) λad3=>?_)
 refine Ds1 11 (Sc0 C (Am call224 C C (Or_ok Bk)) ?_)
 refine Dc kr ?_
 refine Fc (i:=12) kr C (Bm C) C C (Bb C) ?_
 refine De kr ?_
 exact Ai (Av (S1 4 C) (Az (Ba C C I Ay ⟨by rw [←orL_cmp],rfl⟩)))
variable {κ:Ctx}{I:List Item}
structure Lk where
 u:Int
 v:Int
 w:Int
 lb:Int
 sg:Int
 tm:Int
deriving DecidableEq,Inhabited
instance:Enc Lk:=⟨λx=>[e7 x.u,e7 x.v,e7 x.w,e7 x.lb,e7 x.sg,e7 x.tm],6,by omega,λ_=>rfl,λx u h=>by
 simp only [List.mem_cons,List.not_mem_nil,or_false] at h
 rcases h with rfl|rfl|rfl|rfl|rfl|rfl<;>rfl⟩
theorem eqt146:EqT prog 146 Lk:=EqT.flat (λp:Lk=>[p.u,p.v,p.w,p.lb,p.sg,p.tm]) (λ_=>rfl) (λx y h=>by cases x;cases y;simpa using h) (n:=6) (λ_=>rfl) kr kr kr kr kr
structure Ev where
 kd:Int
 tm:Int
 u:Int
 v:Int
 w:Int
 lb:Int
 sg:Int
deriving DecidableEq,Inhabited
instance:Enc Ev:=⟨λx=>[e7 x.kd,e7 x.tm,e7 x.u,e7 x.v,e7 x.w,e7 x.lb,e7 x.sg],7,by omega,λ_=>rfl,λx u h=>by
 simp only [List.mem_cons,List.not_mem_nil,or_false] at h
 rcases h with rfl|rfl|rfl|rfl|rfl|rfl|rfl<;>rfl⟩
def Lk.p(l:Lk):Pt:=⟨l.u,l.v⟩
def Lk.cmp(a c:Lk):Int:=Pt.cmp a.p c.p
def Lk.lt(a c:Lk):Prop:=Pt.lt a.p c.p
instance:DecidableRel Lk.lt:=λa c=>by unfold Lk.lt;infer_instance
def rightW(w lb sg:Int):Prop:=1<=w/\w<=1000/\0<=lb/\lb<=15/\(sg=1\/sg = -1)
instance (w lb sg:Int):Decidable (rightW w lb sg):=by unfold rightW;infer_instance
def badL(n:Int)(l:Lk):Int:=if l.u<0\/l.v<=l.u\/n<=l.v then 6 else if ¬rightW l.w l.lb l.sg then 1 else if l.tm<0\/1048576<l.tm then 9 else 0
def checkS(n:Int)(xs:List Lk):Int:=if n<0\/64<n then 1 else scanL (badL n) Lk.lt none xs
theorem badL_zero{n:Int}{l:Lk}(h1:¬(l.u<0\/l.v<=l.u\/n<=l.v))(h2:rightW l.w l.lb l.sg)(h3:¬(l.tm<0\/1048576<l.tm)):badL n l=0:=by
 unfold badL;rw [if_neg h1,if_neg (λh=>h h2),if_neg h3]
theorem badL_six{n:Int}{l:Lk}(h1:l.u<0\/l.v<=l.u\/n<=l.v):badL n l=6:=by unfold badL;rw [if_pos h1]
theorem badL_one{n:Int}{l:Lk}(h1:¬(l.u<0\/l.v<=l.u\/n<=l.v))(h2:¬rightW l.w l.lb l.sg):badL n l=1:=by unfold badL;rw [if_neg h1,if_pos h2]
theorem badL_nine{n:Int}{l:Lk}(h1:¬(l.u<0\/l.v<=l.u\/n<=l.v))(h2:rightW l.w l.lb l.sg)(h3:l.tm<0\/1048576<l.tm):badL n l=9:=by unfold badL;rw [if_neg h1,if_neg (λh=>h h2),if_pos h3]
def checkW(kd wd mo:Int):Int:=if kd<1\/3<kd then 8 else if (kd=2/\(wd<1\/1048576<wd))\/(kd≠2/\wd≠0)\/(kd=3/\(mo<0\/2016<mo))\/(kd≠3/\mo≠0) then 1 else 0
theorem CheckW_ok(kd wd mo:Int):eu prog κ 78 [.agg #[e7 kd,e7 wd,e7 mo]] I (λr J=>r=e7 (checkW kd wd mo)/\I=J):=by
 refine Ce1 Tryz.func78 C C ?_
 refine Aj (Ge1 (Bg (cs:=[_,_,_]) C C C) λb1=>Ga C (Ah (Aj (Ga C (Ga C (Ah (Au (Aj (Gf fld31_0 C (Gl ef ?_))))))))))
 refine Ah (A6 (Aj (Gr (Bl C C) (Ga C (Ah (Bd C (λc7=>?_) (λc7=>?_)))))))
 ·refine A4 (Ak (Ai (Au (Aj (Gf fld31_1 C (Gl ef ?_))))))
  refine Gm C (Gr (Bx C C) (Gm C (Bs (d:=37) C (λg37=>?_) (λg37=>?_))))
  ·exact eb (eb (eb (eb (Gr (Ap C C) (Ah (Av (S1 42 C) (Do C (Aj (Ga C (Ah (Az (Ar (Ba C C I Ay ⟨by rw [show checkW kd wd mo=1 from by unfold checkW;split<;>first|rfl|omega|(split<;>first|rfl|omega)],rfl⟩)))))))))))))
  ·refine e9 (Ab fld31_2 C) (e9 (As ef) ?_)
   refine e9 (Af C) (e9 (Bx C C) (Gr (Al C C) (Ah (Av (S1 42 C) (Bd C (λc42=>?_) (λc42=>?_))))))
   ·exact Aj (Ga C (Ah (Az (Ar (Ba C C I Ay ⟨by rw [show checkW kd wd mo=1 from by unfold checkW;split<;>first|rfl|omega|(split<;>first|rfl|omega)],rfl⟩)))))
   ·exact A4 (Ai (Aj (Ga C (Ah (Az (Ba C C I Ay ⟨by rw [show checkW kd wd mo=0 from by unfold checkW;split<;>first|rfl|omega|(split<;>first|rfl|omega)],rfl⟩))))))
 ·refine Aj (Gr (Bl C C) (Ga C (Ah (Bd C (λc9=>?_) (λc9=>?_)))))
  ·refine Au (Aj (Gf fld31_1 C (Gl ef ?_)))
   refine Gr (Bi C C) (Gm C (Bs (d:=14) C (λg14=>?_) (λg14=>?_)))
   ·exact eb (eb (eb (Gr (Ap C C) (Ah (Av (S3 18 4 1 C C C) (Do C (Aj (Ga C (Ah (Az (Ar (A3 (Ar (Ba C C I Ay ⟨by rw [show checkW kd wd mo=1 from by unfold checkW;split<;>first|rfl|omega|(split<;>first|rfl|omega)],rfl⟩))))))))))))))
   ·refine e9 (Ab fld31_1 C) (e9 (As ef) ?_)
    refine e9 (Ci C C) (Gr (Al C C) (Ah (Av (S3 18 4 1 C C C) (Bd C (λc18=>?_) (λc18=>?_)))))
    ·exact Aj (Ga C (Ah (Az (Ar (A3 (Ar (Ba C C I Ay ⟨by rw [show checkW kd wd mo=1 from by unfold checkW;split<;>first|rfl|omega|(split<;>first|rfl|omega)],rfl⟩)))))))
    ·refine A4 (Ai (A0 (Gf fld31_1 C (Gl ef ?_))))
     refine Ga C (Bf (Ak (Ai (Au (Aj (Gf fld31_1 C (Gl ef ?_)))))))
     refine Gm C (Gr (Bx C C) (Gm C (Bs (d:=37) C (λg37=>?_) (λg37=>?_))))
     ·exact eb (eb (eb (eb (Gr (Ap C C) (Ah (Av (S1 42 C) (Do C (Aj (Ga C (Ah (Az (Ar (Ba C C I Ay ⟨by rw [show checkW kd wd mo=1 from by unfold checkW;split<;>first|rfl|omega|(split<;>first|rfl|omega)],rfl⟩)))))))))))))
     ·refine e9 (Ab fld31_2 C) (e9 (As ef) ?_)
      refine e9 (Af C) (e9 (Bx C C) (Gr (Al C C) (Ah (Av (S1 42 C) (Bd C (λc42=>?_) (λc42=>?_))))))
      ·exact Aj (Ga C (Ah (Az (Ar (Ba C C I Ay ⟨by rw [show checkW kd wd mo=1 from by unfold checkW;split<;>first|rfl|omega|(split<;>first|rfl|omega)],rfl⟩)))))
      ·exact A4 (Ai (Aj (Ga C (Ah (Az (Ba C C I Ay ⟨by rw [show checkW kd wd mo=0 from by unfold checkW;split<;>first|rfl|omega|(split<;>first|rfl|omega)],rfl⟩))))))
  ·refine Aj (Gr (Bl C C) (Ga C (Ah (Bd C (λc21=>?_) (λc21=>?_)))))
   ·refine Au (Aj (Gf fld31_2 C (Gl ef ?_)))
    refine Gr (Bi C C) (Gm C (Bs (d:=26) C (λg26=>?_) (λg26=>?_)))
    ·exact eb (eb (eb (Gr (Ap C C) (Ah (Av (S3 30 3 1 C C C) (Do C (Aj (Ga C (Ah (Az (Ar (A3 (Ar (Ba C C I Ay ⟨by rw [show checkW kd wd mo=1 from by unfold checkW;split<;>first|rfl|omega|(split<;>first|rfl|omega)],rfl⟩))))))))))))))
    ·refine e9 (Ab fld31_2 C) (e9 (As ef) ?_)
     refine e9 (Ci C C) (Gr (Al C C) (Ah (Av (S3 30 3 1 C C C) (Bd C (λc30=>?_) (λc30=>?_)))))
     ·exact Aj (Ga C (Ah (Az (Ar (A3 (Ar (Ba C C I Ay ⟨by rw [show checkW kd wd mo=1 from by unfold checkW;split<;>first|rfl|omega|(split<;>first|rfl|omega)],rfl⟩)))))))
     ·refine A4 (Ai (A0 (Gf fld31_2 C (Gl ef ?_))))
      refine Ga C (Bf (Ak (Ai (Au (Aj (Gf fld31_1 C (Gl ef ?_)))))))
      refine Gm C (Gr (Bx C C) (Gm C (Bs (d:=37) C (λg37=>?_) (λg37=>?_))))
      ·exact eb (eb (eb (eb (Gr (Ap C C) (Ah (Av (S1 42 C) (Do C (Aj (Ga C (Ah (Az (Ar (Ba C C I Ay ⟨by rw [show checkW kd wd mo=1 from by unfold checkW;split<;>first|rfl|omega|(split<;>first|rfl|omega)],rfl⟩)))))))))))))
      ·refine e9 (Ab fld31_2 C) (e9 (As ef) ?_)
       refine e9 (Af C) (e9 (Bx C C) (Gr (Al C C) (Ah (Av (S1 42 C) (Bd C (λc42=>?_) (λc42=>?_))))))
       ·exact Aj (Ga C (Ah (Az (Ar (Ba C C I Ay ⟨by rw [show checkW kd wd mo=1 from by unfold checkW;split<;>first|rfl|omega|(split<;>first|rfl|omega)],rfl⟩)))))
       ·exact A4 (Ai (Aj (Ga C (Ah (Az (Ba C C I Ay ⟨by rw [show checkW kd wd mo=0 from by unfold checkW;split<;>first|rfl|omega|(split<;>first|rfl|omega)],rfl⟩))))))
   ·exact Aj (Ga C (Ah (Av (S1 2 C) (Az (A3 (Ar (Ba C C I Ay ⟨by rw [show checkW kd wd mo=8 from by unfold checkW;split<;>first|rfl|omega|(split<;>first|rfl|omega)],rfl⟩)))))))
theorem RightW_ok(w lb sg:Int):eu prog κ 251 [e7 w,e7 lb,e7 sg] I (λr J=>r = .bool (decide (rightW w lb sg))/\I=J):=by
 refine Ce3 Tryz.func251 C C ?_
 refine Aj (Ga C (Ah (Aj (Gm C (Gr (Cu C C) (Gm C (Bs (d:=9) C (λg9=>?_) (λg9=>?_))))))))
 ·refine e9 (Af C) (e9 (Ei C C) (Gr (Ap C C) (Gm C (Bs (d:=13) C (λg13=>?_) (λg13=>?_)))))
  ·refine e9 (Af C) (e9 (Cu C C) (Gr (Ap C C) (Gm C (Bs (d:=17) C (λg17=>?_) (λg17=>?_)))))
   ·refine e9 (Af C) (e9 (Ei C C) (Gr (Ap C C) (Gm C (Bs (d:=21) C (λg21=>?_) (λg21=>?_)))))
    ·refine e9 (Af C) (e9 (Bl C C) (e9 (Af C) (Bs (d:=24) C (λg24=>?_) (λg24=>?_))))
     ·exact eb (eb (e9 (Ap C C) (Gr (Ap C C) (Ga C (Ah (Av (S1 6 C) (Az (Ba C C I Ay ⟨(by first|exact congrArg Value.bool (decide_eq_decide.2 (by unfold rightW;omega))|exact congrArg Value.bool (decide_eq_true (by unfold rightW;omega)).symm|exact congrArg Value.bool (decide_eq_false (by unfold rightW;omega)).symm),rfl⟩))))))))
     ·exact e9 (Af C) (e9 (Bl C C) (e9 (Al C C) (Gr (Ap C C) (Ga C (Ah (Av (S1 6 C) (Az (Ba C C I Ay ⟨(by first|exact congrArg Value.bool (decide_eq_decide.2 (by unfold rightW;omega))|exact congrArg Value.bool (decide_eq_true (by unfold rightW;omega)).symm|exact congrArg Value.bool (decide_eq_false (by unfold rightW;omega)).symm),rfl⟩))))))))
    ·exact eb (eb (eb (ee (ee (eb (Gr (Al C C) (Ga C (Ah (Av (S1 6 C) (Az (Ba C C I Ay ⟨(by first|exact congrArg Value.bool (decide_eq_decide.2 (by unfold rightW;omega))|exact congrArg Value.bool (decide_eq_true (by unfold rightW;omega)).symm|exact congrArg Value.bool (decide_eq_false (by unfold rightW;omega)).symm),rfl⟩)))))))))))
   ·exact eb (eb (Gr (Al C C) (Gm C (eb (eb (eb (ee (ee (eb (Gr (Al C C) (Ga C (Ah (Av (S1 6 C) (Az (Ba C C I Ay ⟨(by first|exact congrArg Value.bool (decide_eq_decide.2 (by unfold rightW;omega))|exact congrArg Value.bool (decide_eq_true (by unfold rightW;omega)).symm|exact congrArg Value.bool (decide_eq_false (by unfold rightW;omega)).symm),rfl⟩)))))))))))))))
  ·exact eb (eb (Gr (Al C C) (Gm C (eb (eb (Gr (Al C C) (Gm C (eb (eb (eb (ee (ee (eb (Gr (Al C C) (Ga C (Ah (Av (S1 6 C) (Az (Ba C C I Ay ⟨(by first|exact congrArg Value.bool (decide_eq_decide.2 (by unfold rightW;omega))|exact congrArg Value.bool (decide_eq_true (by unfold rightW;omega)).symm|exact congrArg Value.bool (decide_eq_false (by unfold rightW;omega)).symm),rfl⟩)))))))))))))))))))
 ·exact eb (eb (Gr (Al C C) (Gm C (eb (eb (Gr (Al C C) (Gm C (eb (eb (Gr (Al C C) (Gm C (eb (eb (eb (ee (ee (eb (Gr (Al C C) (Ga C (Ah (Av (S1 6 C) (Az (Ba C C I Ay ⟨(by first|exact congrArg Value.bool (decide_eq_decide.2 (by unfold rightW;omega))|exact congrArg Value.bool (decide_eq_true (by unfold rightW;omega)).symm|exact congrArg Value.bool (decide_eq_false (by unfold rightW;omega)).symm),rfl⟩)))))))))))))))))))))))
theorem OrderL_ok(a c:Lk):eu prog κ 255 [.agg #[e7 (a.u),e7 (a.v),e7 (a.w),e7 (a.lb),e7 (a.sg),e7 (a.tm)],.agg #[e7 (c.u),e7 (c.v),e7 (c.w),e7 (c.lb),e7 (c.sg),e7 (c.tm)]] I (λr J=>r=e7 (Lk.cmp a c)/\I=J):=by
 refine Ce2 Tryz.func255 C C ?_
 refine Aj (Ge1 (Bg (cs:=[_,_,_,_,_,_]) C C C) λb1=>Ge1 (Bg (cs:=[_,_,_,_,_,_]) C C C) λb2=>Ga C (Ah (Au (Bt mixed (C7 12 (Dr 0 C (Ab fld146_0 C) (Dr 1 C (As ef) ?_)))))))
 refine Dr 2 C (Ab fld146_0 C) (Dr 3 C (As ef) ?_)
 refine Dr 5 C (Ab fld146_1 C) (Dr 6 C (As ef) ?_)
 refine Dr 7 C (Ab fld146_1 C) (Dr 8 C (As ef) ?_)
 refine Ds1 4 (Sc0 C (Am call225 C C (Compare_ok a.u c.u)) ?_)
 refine Ds1 9 (Sc0 C (Am call225 C C (Compare_ok a.v c.v)) ?_)
 refine Ds1 10 (Se1 C (Cj (α:=Int) (cs:=[_,_]) (xs:=[cmpI a.u c.u,cmpI a.v c.v]) Ad ef C C dc dc C C C C) λad3=>?_)
 refine Ds1 11 (Sc0 C (Am call224 C C (Or_ok Bk)) ?_)
 refine Dc kr ?_
 refine Fc (i:=12) kr C (Bm C) C C (Bb C) ?_
 refine De kr ?_
 exact Ai (Av (S1 4 C) (Az (Ba C C I Ay ⟨by rw [show Lk.cmp a c=Pt.cmp ⟨a.u,a.v⟩ ⟨c.u,c.v⟩ from rfl,←orL_cmp],rfl⟩)))
end Go.Sl
namespace Go.Sl
end Go.Sl
namespace Go.Sl
open Go.Proofs
set_option maxRecDepth 4000
theorem at_drop{α:Type}[Inhabited α](xs:List α)(l:Nat)(i:Int)(h0:0<=i):e_ (xs.drop l) i=e_ xs ((l:Int)+i):=by
 unfold e_
 rw [List.getD_eq_getElem?_getD,List.getD_eq_getElem?_getD,List.getElem?_drop]
 congr 2;omega
end Go.Sl
