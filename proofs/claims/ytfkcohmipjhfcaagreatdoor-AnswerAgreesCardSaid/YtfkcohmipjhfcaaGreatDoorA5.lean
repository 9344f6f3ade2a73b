/- A part of the proofs of statements of this seat: contracts of functions, and the plain laws that they lean on. No conditions. -/
import Derived.Test.YtfkcohmipjhfcaaGreatDoorA4
import Derived.Shelf.SlSortCmp.NoneTotal
import Derived.Shelf.SlSortCmp.WholeK
set_option linter.unusedVariables false
set_option linter.unusedSimpArgs false
set_option linter.unusedSectionVars false
namespace Go.Sl
open Go.Proofs
set_option maxRecDepth 4000
variable {κ:Ctx}{I:List Item}
def putL:List Int→Int→List Int
 |[],x=>[x]
 |y::ys,x=>if y<x then y::putL ys x else if y=x then y::ys else x::y::ys
def ofL(l:List Int):List Int:=l.foldl putL []
theorem putL_at:∀(xs:List Int) (i:Nat) (x:Int),i≤xs.length→(∀j,j<i→at_ xs (j:Int)<x)→
  (i<xs.length→at_ xs (i:Int)=x→putL xs x=xs)∧((i=xs.length∨(i<xs.length∧x<at_ xs (i:Int)))→putL xs x=(xs.take i++[x])++xs.drop i)
 |[],i,x,hi,h=>by
  obtain rfl:i=0:=by simpa using hi
  exact ⟨fun h=>by simp at h,fun _=>rfl⟩
 |y::ys,0,x,hi,h=>by
  refine ⟨fun _ e=>?_,fun e=>?_⟩
  ·have e':y=x:=e
   simp only [putL];rw [if_neg om,if_pos e']
  ·rcases e with e|⟨_,e⟩
   ·simp at e
   ·have e':x<y:=e
    simp only [putL];rw [if_neg om,if_neg om];rfl
 |y::ys,i+1,x,hi,h=>by
  have h0:y<x:=h 0 om
  have ha:∀j:Nat,at_ (y::ys) ((j+1:Nat):Int)=at_ ys (j:Int):=fun j=>by rw [at_nat,at_nat];simp
  obtain ⟨h1,h2⟩:=putL_at ys i x (by simpa using hi) fun j hj=>by have:=h (j+1) om;rwa [ha] at this
  refine ⟨fun hl e=>?_,fun e=>?_⟩
  ·simp only [putL];rw [if_pos h0,h1 (by simpa using hl) (by rwa [ha] at e)]
  ·simp only [putL];rw [if_pos h0,h2 (by rw [ha] at e;simpa using e)];rfl
theorem ofL_take(xs:List Int)(k:Nat)(h:k<xs.length):ofL (xs.take (k+1))=putL (ofL (xs.take k)) (at_ xs (k:Int)):=by
 rw [Db xs k h];simp [ofL]
theorem mem_putL(x y:Int):∀l,y∈putL l x↔y=x∨y∈l
 |[]=>by simp [putL]
 |z::zs=>by
  simp only [putL]
  split
  ·simp only [List.mem_cons,mem_putL x y zs]
   constructor
   ·rintro (h|h|h)<;>simp [h]
   ·rintro (h|h|h)<;>simp [h]
  ·split
   ·rename_i e;subst e;simp
   ·simp
theorem mem_foldl_putL(y:Int):∀(l acc:List Int),y∈l.foldl putL acc↔y∈l∨y∈acc
 |[],acc=>by simp
 |x::l,acc=>by
  rw [List.foldl_cons,mem_foldl_putL y l,mem_putL]
  simp only [List.mem_cons]
  constructor
  ·rintro (h|h|h)<;>simp [h]
  ·rintro ((h|h)|h)<;>simp [h]
theorem mem_ofL(l:List Int)(y:Int):y∈ofL l↔y∈l:=by simp [ofL,mem_foldl_putL]
theorem putL_len(x:Int):∀l,(putL l x).length≤l.length+1
 |[]=>by simp [putL]
 |y::ys=>by
  simp only [putL]
  split
  ·have:=putL_len x ys;simp;omega
  ·split<;>simp
theorem ofL_len(l:List Int):(ofL l).length≤l.length:=by
 have h:∀(l acc:List Int),(l.foldl putL acc).length≤l.length+acc.length:=fun l=>by
  induction l with
  |nil=>intro acc;simp
  |cons x l ih=>intro acc;have:=ih (putL acc x);have:=putL_len x acc;simp;omega
 have:=h l []
 simpa [ofL] using this
theorem Put_ok{a:Option Addr}{c:Nat}{xs:List Int}(hb:xs.length<17592186044415)(x:Int) :
    CallS Tryz.prog κ 153 [.slice a xs.length c,I64 (x)] (vc 3 (.slice a xs.length c) (xs)::I) (fun r J=>∃a' c',r = .slice a' (putL xs x).length c'∧J=vc 3 (.slice a' (putL xs x).length c') (putL xs x)::I):=by
 refine B4 (fun w hs=>(Sl.vec (κ:=κ) (List.mem_cons_self)).le w hs) fun hmax=>?_
 refine Ce2 Tryz.func153 rfl rfl ?_
 refine Ah (Ga rfl (Af (Ah (Ga rfl (Af (W.cut (σ:=Nat) (fun s=>([(0,.slice a xs.length c),(1,I64 (x)),(5,I64 (((s:Nat):Int)))]:Env)) (fun s=>vc 3 (.slice a xs.length c) (xs)::I) (fun s=>(s≤xs.length)∧(∀j,j<s→at_ xs (j:Int)<x)∧(s=xs.length∨(s<xs.length∧¬at_ xs (s:Int)<x))) ?_ ?_))))))
 ·refine Ax (Bx (σ:=Nat) (fun s=>([(0,.slice a xs.length c),(1,I64 (x)),(5,I64 (((s:Nat):Int)))]:Env)) (fun s=>vc 3 (.slice a xs.length c) (xs)::I) (fun s=>(s≤xs.length)∧(∀j,j<s→at_ xs (j:Int)<x)) (fun s=>xs.length - s) (0) (show ((0:Nat)≤xs.length)∧(∀j,j<(0:Nat)→at_ xs (j:Int)<x) from ⟨om,all_zero⟩) (Ac rfl (Ac rfl (Ac Cb Bq))) (show Fit κ _ (vc 3 (.slice a xs.length c) (xs)::I) from Ay) ?_)
  rintro i hp
  obtain ⟨hi,hlt⟩:=hp
  refine Ao (Ah (Gm rfl (Gm rfl (Gr (Bw Ab rfl) (Gr (Bc rfl rfl) (Gm rfl (Bi (d:=11) rfl (fun g11=>?_) (fun g11=>?_))))))))
  ·refine Gro (Ad rfl) (Gro (Ad rfl) (Gro (A8 (α:=Int) (xs:=xs) Ab ty3 rfl rfl Br om om) (Gro (B2 (xs:=xs) ty3 rfl Br om om) (Gro (Ad rfl) (Gro (Bc rfl rfl) (Gr (Ap rfl rfl) (Af (As (S4 18 0 1 5 rfl rfl rfl rfl) (A9 rfl (fun c18=>?_) (fun c18=>?_))))))))))
   ·exact A0 (Ai (Ax (Aw (Gm rfl (Gr (Rad rfl rfl) (Ga rfl (Bj (Aj (B6 ((i+1)) ⟨om,(Ei hlt om)⟩)))))))))
   ·exact Bt (Ak (Ak (A6 (Ep ((i)) ⟨om,hlt,om⟩))))
  ·exact Gpo (Gpo (Gpo (Gpo (Gpo (Gpo (Gr (Av rfl rfl) (Af (As (S4 18 0 1 5 rfl rfl rfl rfl) (Cx rfl (Bt (Ak (Ak (A6 (Ep ((i)) ⟨om,hlt,om⟩))))))))))))))
 ·rintro i hp
  obtain ⟨hi,hlt,hst⟩:(i≤xs.length)∧(∀j,j<i→at_ xs (j:Int)<x)∧(i=xs.length∨(i<xs.length∧¬at_ xs (i:Int)<x)):=hp
  show W Tryz.prog κ 46 _ _ ([(0,.slice a xs.length c),(1,I64 (x)),(5,I64 ((i:Int)))]:Env) (vc 3 (.slice a xs.length c) (xs)::I)
  refine Ao (Ah (Gm rfl (Gm rfl (Gr (Bw Ab rfl) (Gr (Bc rfl rfl) (Gm rfl (Bi (d:=25) rfl (fun g25=>?_) (fun g25=>?_))))))))
  ·refine Gro (Ad rfl) (Gro (Ad rfl) (Gro (A8 (α:=Int) (xs:=xs) Ab ty3 rfl rfl Br om om) (Gro (B2 (xs:=xs) ty3 rfl Br om om) (Gro (Ad rfl) (Gro (Bs rfl rfl) (Gr (Ap rfl rfl) (Af (As (S4 32 0 1 5 rfl rfl rfl rfl) (A9 rfl (fun c32=>?_) (fun c32=>?_))))))))))
   ·refine Ah (Gm rfl (Ga rfl (Af (A2 (Al ?_)))))
    have hp:=(putL_at xs i x hi hlt).1 om om
    exact A7 rfl rfl (_) A4 ⟨a,c,by rw [hp],by rw [hp]⟩
   ·refine A0 (Ai (Ah (Gm rfl (Gm rfl (Gr (Runs.hi (α:=Int) (xs:=xs) (h:=i) Ab ty3 rfl rfl om Br om) (Ge2 (Eff.clone (α:=Int) (ys:=List.take i xs) Ab ty3 rfl rfl rfl (Sl.take Br om) (by simp only [List.length_append,List.length_cons,List.length_nil,List.length_take,List.length_drop];omega) dc rfl) fun ad1 cp2=>?_))))))
    refine Ga rfl (Af (Ao (Bo mixed (Bu (vc 3 (.slice a xs.length c) (xs)::I) 9 (Dr 0 rfl (Ad rfl) (Dr 1 rfl (Ad rfl) (Dr 4 rfl (Ad rfl) (Dr 5 rfl (Ad rfl) (Dr 6 rfl (El (α:=Int) (xs:=xs) (l:=i) Ab ty3 rfl rfl om Br om) (Ds1 2 (Se1 rfl (B9 (α:=Int) (cs:=[_]) (xs:=[x]) Ab ty3 rfl rfl dc dc rfl rfl rfl rfl) fun ad3=>?_)))))))))))
    refine Ds1 3 (Se2 rfl (Ca (α:=Int) (e:=3) (xs:=List.take i xs) (ys:=([x]:List Int)) Ab ty3 rfl rfl rfl mm Br (by simp only [List.length_append,List.length_cons,List.length_nil,List.length_take,List.length_drop];omega) dc rfl (fun _ _=>am)) fun ad4 cp5=>?_)
    refine Ds1 7 (Se2 rfl (Ca (α:=Int) (e:=3) (xs:=(List.take i xs)++([x]:List Int)) (ys:=List.drop i xs) Ab ty3 rfl rfl rfl mm (Sl.drop Br om) (by simp only [List.length_append,List.length_cons,List.length_nil,List.length_take,List.length_drop];omega) dc rfl (fun _ _=>am)) fun ad6 cp7=>?_)
    refine Dr 8 rfl (Bd rfl) (Dz (Ai (As (S1 4 rfl) (A2 ?_))))
    have hp:=(putL_at xs i x hi hlt).2 om
    exact A7 rfl rfl (vc 3 (.slice ad6 (putL xs x).length cp7) (putL xs x)::I) (by rw [hp];exact Ay) ⟨ad6,cp7,by rw [hp],rfl⟩
  ·refine Gpo (Gpo (Gpo (Gpo (Gpo (Gpo (Gr (Av rfl rfl) (Af (As (S4 32 0 1 5 rfl rfl rfl rfl) (Cx rfl (A0 (Ai (Ah (Gm rfl (Gm rfl (Gr (Runs.hi (α:=Int) (xs:=xs) (h:=i) Ab ty3 rfl rfl om Br om) (Ge2 (Eff.clone (α:=Int) (ys:=List.take i xs) Ab ty3 rfl rfl rfl (Sl.take Br om) (by simp only [List.length_append,List.length_cons,List.length_nil,List.length_take,List.length_drop];omega) dc rfl) fun ad8 cp9=>?_))))))))))))))))
   refine Ga rfl (Af (Ao (Bo mixed (Bu (vc 3 (.slice a xs.length c) (xs)::I) 9 (Dr 0 rfl (Ad rfl) (Dr 1 rfl (Ad rfl) (Dr 4 rfl (Ad rfl) (Dr 5 rfl (Ad rfl) (Dr 6 rfl (El (α:=Int) (xs:=xs) (l:=i) Ab ty3 rfl rfl om Br om) (Ds1 2 (Se1 rfl (B9 (α:=Int) (cs:=[_]) (xs:=[x]) Ab ty3 rfl rfl dc dc rfl rfl rfl rfl) fun ad10=>?_)))))))))))
   refine Ds1 3 (Se2 rfl (Ca (α:=Int) (e:=3) (xs:=List.take i xs) (ys:=([x]:List Int)) Ab ty3 rfl rfl rfl mm Br (by simp only [List.length_append,List.length_cons,List.length_nil,List.length_take,List.length_drop];omega) dc rfl (fun _ _=>am)) fun ad11 cp12=>?_)
   refine Ds1 7 (Se2 rfl (Ca (α:=Int) (e:=3) (xs:=(List.take i xs)++([x]:List Int)) (ys:=List.drop i xs) Ab ty3 rfl rfl rfl mm (Sl.drop Br om) (by simp only [List.length_append,List.length_cons,List.length_nil,List.length_take,List.length_drop];omega) dc rfl (fun _ _=>am)) fun ad13 cp14=>?_)
   refine Dr 8 rfl (Bd rfl) (Dz (Ai (As (S1 4 rfl) (A2 ?_))))
   have hp:=(putL_at xs i x hi hlt).2 om
   exact A7 rfl rfl (vc 3 (.slice ad13 (putL xs x).length cp14) (putL xs x)::I) (by rw [hp];exact Ay) ⟨ad13,cp14,by rw [hp],rfl⟩
theorem Put_at{F:Item→List Item}{a:Option Addr}{c:Nat}{xs:List Int}(hat:AtF I (vc 3 (.slice a xs.length c) xs) F)(hb:xs.length<17592186044415)(x:Int) :
  CallS Tryz.prog κ 153 [.slice a xs.length c,I64 x] I fun r J=>∃a' c',r = .slice a' (putL xs x).length c'∧J=F (vc 3 (.slice a' (putL xs x).length c') (putL xs x)):=
 (Dy (Z:=fun _=>[]) (X:=fun y:Option Addr×Nat=>vc 3 (.slice y.1 (putL xs x).length y.2) (putL xs x)) (Post:=fun r y=>r = .slice y.1 (putL xs x).length y.2) hat fun J _ _=>(Put_ok (a:=a) (c:=c) hb x).mono fun r J' ⟨a',c',h1,h2⟩=>⟨(a',c'),h1,h2⟩).mono fun _ _ ⟨y,h1,h2⟩=>⟨y.1,y.2,h1,h2⟩
theorem Of_ok{v:Value}{xs:List Int}(hl:Sl κ I v xs)(hb:xs.length<17592186044415) :
    CallS Tryz.prog κ 82 [v] I (fun r J=>∃a c,r = .slice a (ofL xs).length c∧J=vc 3 (.slice a (ofL xs).length c) (ofL xs)::I):=by
 refine B4 hl.le fun hmax=>?_
 refine Ce1 Tryz.func82 rfl rfl ?_
 refine Ah (Ga rfl (Af (Ah (Ga rfl (Af (Ao (Ah (Gm rfl (Gr (Bz (α:=Int) (xs:=xs) Ab rfl (Bf hl)) (Gm rfl (Af (Ax (Bx (σ:=Nat×(Option Addr)×Nat×(List Int)) (fun s=>([(3,.slice s.2.1 s.2.2.2.length s.2.2.1),(6,v),(7,I64 (((xs.length:Nat):Int))),(8,I64 (((s.1:Nat):Int)))]:Env)) (fun s=>vc 3 (.slice s.2.1 s.2.2.2.length s.2.2.1) (s.2.2.2)::I) (fun s=>(s.1≤xs.length)∧(s.2.2.2=ofL (xs.take s.1))) (fun s=>xs.length - s.1) (0,none,0,[]) (show ((0:Nat)≤xs.length)∧(([]:List Int)=ofL (xs.take (0:Nat))) from ⟨om,rfl⟩) (Ac (Cz rfl (by first|rfl|simp)) (Ac rfl (Ac rfl (Ac Cb Bq)))) (show Fit κ _ (vc 3 (.slice (none) ([]).length (0)) (([]))::I) from (B3 _ _)) ?_)))))))))))))
 rintro ⟨k,a,c,out⟩ hp
 dsimp only at hp ⊢
 obtain ⟨hk,ho⟩:=hp
 refine Ah (Gr (Bc rfl rfl) (Af (Ao (A9 rfl (fun c9=>?_) (fun c9=>?_)))))
 ·refine A0 (Ai (Ao (Ax (Ah (Gr (A8 (α:=Int) (xs:=xs) Ab ty3 rfl rfl (Bf hl) om om) (Gr (B2 (xs:=xs) ty3 rfl (Bf hl) om om) (Ga rfl (Af (Aw (Gm rfl (Gm rfl (Gc2 (Am call153 rfl rfl (Put_at (by repeat (first|exact AtF.head _ _|apply AtF.tail)) (by rw [ho];have:=ofL_len (xs.take k);simp only [List.length_take] at this;omega) (at_ xs (k:Int)))) fun ad1 cp2=>?_))))))))))))
  show G Tryz.prog κ _ _ _ _ ([(14,.slice ad1 (putL out (at_ xs (k:Int))).length cp2),(13,I64 (at_ xs (k:Int))),(12,.slice a out.length c),(5,I64 (at_ xs (k:Int))),(11,I64 (at_ xs (k:Int))),(10,elemPtr (v) (((k:Int)).toNat*Enc.sz Int)),(9,.bool (decide ((k:Int)<((xs.length:Nat):Int)))),(3,.slice a out.length c),(6,v),(7,I64 (((xs.length:Nat):Int))),(8,I64 ((k:Int)))]:Env) (vc 3 (.slice ad1 (putL out (at_ xs (k:Int))).length cp2) (putL out (at_ xs (k:Int)))::I)
  exact Ga rfl (Bj (Aj (Ai (Aw (Gr (Rad rfl rfl) (Gm rfl (Bj (B6 ((k+1),(ad1),(cp2),(putL out (at_ xs (k:Int)))) (by dsimp only;exact ⟨om,(by rw [ofL_take xs k om,←ho])⟩)))))))))
 ·refine Bt (Ak (Ak (A6 (Ai (Ah (Gm rfl (Ga rfl (Af (A2 ?_)))))))))
  have hk2:xs.take k=xs:=List.take_of_length_le om
  rw [hk2] at ho
  subst ho
  exact A7 rfl rfl (_) A4 ⟨a,c,rfl,rfl⟩
theorem filter_take(xs:List Int)(p:Int→Bool)(k:Nat)(h:k<xs.length):(xs.take (k+1)).filter p=(xs.take k).filter p++if p (at_ xs (k:Int)) then [at_ xs (k:Int)] else []:=by
 rw [Db xs k h,List.filter_append]
 congr 1
 by_cases hp:p (at_ xs (k:Int))<;>simp [List.filter_cons,hp]
theorem filter_take_yes(xs:List Int)(p:Int→Bool)(k:Nat)(h:k<xs.length)(hp:p (at_ xs (k:Int))=true):(xs.take (k+1)).filter p=(xs.take k).filter p++[at_ xs (k:Int)]:=by
 rw [filter_take xs p k h,if_pos hp]
theorem filter_take_no(xs:List Int)(p:Int→Bool)(k:Nat)(h:k<xs.length)(hp:p (at_ xs (k:Int))=false):(xs.take (k+1)).filter p=(xs.take k).filter p:=by
 rw [filter_take xs p k h,hp];simp
theorem filter_take_len(xs:List Int)(p:Int→Bool)(k:Nat):((xs.take k).filter p).length≤xs.length:=by
 have h1:=List.length_filter_le p (xs.take k)
 have h2:=List.length_take_le' k xs
 omega
variable {κ:Ctx}{I:List Item}
theorem ValidP_nil(w:Int):ValidP [] w:=fun j hj=>absurd hj (Nat.not_lt_zero j)
theorem ValidP_mono{xs:List Int}{w w':Int}(h:ValidP xs w)(hw:w≤w'):ValidP xs w':=fun j hj=>⟨⟨(h j hj).1.1,by have:=(h j hj).1.2;omega⟩,(h j hj).2⟩
theorem ValidP_push{xs:List Int}{w:Int}(h:ValidP xs w)(h0:0≤w):ValidP (xs++[w]) (w+1):=fun j hj=>by
 by_cases hl:j<xs.length
 ·obtain ⟨⟨h1,h2⟩,h3⟩:=h j hl
  rw [D7 xs [w] j hl]
  refine ⟨⟨h1,by omega⟩,fun hp=>?_⟩
  have e:((j:Int) - 1)=((j - 1:Nat):Int):=by omega
  rw [e,D7 xs [w] (j - 1) om,←e]
  exact h3 hp
 ·obtain rfl:j=xs.length:=by simp at hj;omega
  rw [at_last]
  refine ⟨⟨h0,by omega⟩,fun hp=>?_⟩
  have e:((xs.length:Int) - 1)=((xs.length - 1:Nat):Int):=by omega
  rw [e,D7 xs [w] (xs.length - 1) om]
  exact (h _ om).1.2
theorem ValidP_mem{xs:List Int}{w x:Int}(h:ValidP xs w)(hx:x∈xs):0≤x∧x<w:=by
 obtain ⟨j,hj,he⟩:=mem_at hx
 rw [←he];exact (h j hj).1
theorem ValidP_of{xs:List Int}{w n:Int}(h:ValidP xs w)(hl:xs.length≤w.toNat)(hw:w≤n∨w=0):ValidP xs n:=by
 rcases hw with hw|hw
 ·exact ValidP_mono h hw
 ·subst hw
  have:xs=[]:=List.eq_nil_of_length_eq_zero (by simpa using hl)
  subst this;exact ValidP_nil n
theorem Set_base{b:Nat}{lv:Value}{ls:List Int}{i:Int}(hl:∀q,Sl κ (deck b lv q::I) lv ls)(h0:0≤i){nodes:Int}(hn:nodes≤1000000000) :
    CallS Tryz.prog κ 28 [.pointer (some ⟨b,0,none⟩),I64 (nodes)] (blk b [lv,I64 (i)] 125::I) (fun r J=>∃y:Option Addr×Nat×List Int×Int,(r = .slice y.1 y.2.2.1.length y.2.1∧ValidP y.2.2.1 nodes∧(y.2.2.1.length:Int)≤max nodes 0∧0≤y.2.2.2)∧J=[vc 3 (.slice y.1 y.2.2.1.length y.2.1) y.2.2.1]++deck b lv y.2.2.2::I):=by
 refine Ce2 Tryz.func28 rfl rfl ?_
 refine Ah (Ga rfl (Af (Ah (Ga rfl (Af (Ao (Ah (Ga rfl (Af (Ax (Bx (σ:=Int×Int×(Option Addr)×Nat×(List Int)) (fun s=>([(0,.pointer (some ⟨b,0,none⟩)),(1,I64 (nodes)),(5,.slice s.2.2.1 s.2.2.2.2.length s.2.2.2.1),(6,I64 (s.1))]:Env)) (fun s=>vc 3 (.slice s.2.2.1 s.2.2.2.2.length s.2.2.2.1) (s.2.2.2.2)::blk b [lv,I64 (s.2.1)] 125::I) (fun s=>(0≤s.1∧(s.1≤nodes∨s.1=0))∧(0≤s.2.1)∧(ValidP s.2.2.2.2 s.1)∧(s.2.2.2.2.length≤s.1.toNat)) (fun s=>(nodes - s.1).toNat) (0,i,none,0,[]) (show (0≤(0:Int)∧((0:Int)≤nodes∨(0:Int)=0))∧(0≤(i:Int))∧(ValidP ([]:List Int) (0:Int))∧(([]:List Int).length≤(0:Int).toNat) from ⟨⟨by omega,.inr rfl⟩,om,(ValidP_nil _),(Nat.le_refl _)⟩) (Ac rfl (Ac rfl (Ac (Cz rfl (by first|rfl|simp)) (Ac Cb Bq)))) (show Fit κ _ (vc 3 (.slice (none) ([]).length (0)) (([]))::blk b [lv,I64 ((i))] 125::I) from (B3 _ _)) ?_)))))))))))
 rintro ⟨w,q,a,c,out⟩ hp
 dsimp only at hp ⊢
 obtain ⟨hw,hq,hv,hol⟩:=hp
 refine Ao (Ah (Gm rfl (Gm rfl (Gr (Bc rfl rfl) (Af (A9 rfl (fun c9=>?_) (fun c9=>?_)))))))
 ·refine A0 (Ai (Ao (Ax (Ah (Gm rfl (G.e (Am call19 rfl rfl (Next_ok (by repeat (first|exact AtF.head _ _|apply AtF.tail)) (Ch (hl _) A4) om om)) ?_))))))
  rintro _ _ ⟨_,_,⟨x1,i2,rfl,hx1,hi2,rfl⟩,rfl,rfl⟩
  show G Tryz.prog κ _ _ _ _ ([(13,I64 (x1)),(12,.pointer (some ⟨b,0,none⟩)),(9,.bool (decide (w<nodes))),(8,I64 (nodes)),(7,I64 (w)),(0,.pointer (some ⟨b,0,none⟩)),(1,I64 (nodes)),(5,.slice a out.length c),(6,I64 (w))]:Env) (vc 3 (.slice a out.length c) (out)::blk b [lv,I64 (i2)] 125::I)
  refine Gr (Bs rfl rfl) (Af (A9 rfl (fun c14=>?_) (fun c14=>?_)))
  ·refine Aw (Gm rfl (Gm rfl (Ge1 (B9 (α:=Int) (cs:=[_]) (xs:=[w]) Ab ty3 rfl rfl dc dc rfl rfl rfl rfl) fun ad3=>?_)))
   refine Ge2 (Ca (α:=Int) (e:=3) (xs:=out) (ys:=([w]:List Int)) Ab ty3 rfl rfl rfl mm Br lcn dc rfl (fun _ _=>am)) fun ad4 cp5=>?_
   exact Ga rfl (Bj (Aj (Ai (As (S4 5 0 1 6 rfl rfl rfl rfl) (Aw (Gm rfl (Gr (Rad rfl rfl) (Ga rfl (Bj (B6 ((w+1),(i2),(ad4),(cp5),(out++([w]:List Int))) (by dsimp only;exact ⟨om,om,(by first|exact ValidP_push hv hw.1|exact ValidP_mono hv om),olp⟩)))))))))))
  ·exact A0 (Aj (Ai (Aw (Gm rfl (Gr (Rad rfl rfl) (Ga rfl (Bj (B6 ((w+1),(i2),(a),(c),(out)) (by dsimp only;exact ⟨om,om,(by first|exact ValidP_push hv hw.1|exact ValidP_mono hv om),olp⟩)))))))))
 ·exact Bt (Ak (Ak (A6 (Ai (Ah (Gm rfl (Ga rfl (Af (A2 (A7 rfl rfl (_) A4 ⟨(a,c,out,q),⟨rfl,ValidP_of hv hol hw.2,by show (out.length:Int)≤max nodes 0;omega,hq⟩,rfl⟩))))))))))
theorem Set_at{F:Item→List Item}{b:Nat}{lv:Value}{ls:List Int}{i:Int}(hat:AtF I (deck b lv i) F)(hl:∀q,Sl κ (F (deck b lv q)) lv ls)(h0:0≤i){nodes:Int}(hn:nodes≤1000000000) :
  CallS Tryz.prog κ 28 [.pointer (some ⟨b,0,none⟩),I64 nodes] I fun r J=>∃a c out i',r = .slice a out.length c∧ValidP out nodes∧(out.length:Int)≤max nodes 0∧0≤i'∧J=vc 3 (.slice a out.length c) out::F (deck b lv i'):=
 (Dy (Post:=fun r (y:Option Addr×Nat×List Int×Int)=>r = .slice y.1 y.2.2.1.length y.2.1∧ValidP y.2.2.1 nodes∧(y.2.2.1.length:Int)≤max nodes 0∧0≤y.2.2.2) (Z:=fun y:Option Addr×Nat×List Int×Int=>[vc 3 (.slice y.1 y.2.2.1.length y.2.1) y.2.2.1]) (X:=fun y:Option Addr×Nat×List Int×Int=>deck b lv y.2.2.2) hat fun J _ hF=>Set_base (fun q=>(hl q).fit (hF _)) h0 hn).mono fun _ _ ⟨y,⟨h1,h2,h3,h4⟩,h5⟩=>⟨y.1,y.2.1,y.2.2.1,y.2.2.2,h1,h2,h3,h4,h5⟩
structure Arc where
 frm:Int
 dst:Int
 cap:Int
deriving Inhabited
instance:Enc Arc:=⟨fun a=>[I64 a.frm,I64 a.dst,I64 a.cap],3,by omega,fun _=>rfl,fun a u h=>by
 simp only [List.mem_cons,List.not_mem_nil,or_false] at h
 rcases h with rfl|rfl|rfl<;>rfl⟩
structure Net where
 nodes:Int
 source:Int
 sink:Int
 arcs:List Arc
structure Net.Ok (n:Net):Prop where
 lim:n.nodes≤4200∧n.arcs.length≤16384
 two:2≤n.nodes
 src:0≤n.source∧n.source<n.nodes
 snk:0≤n.sink∧n.sink<n.nodes
 ne:n.source≠n.sink
 arc:∀a∈n.arcs,(0≤a.frm∧a.frm<n.nodes)∧(0≤a.dst∧a.dst<n.nodes)∧a.frm≠a.dst∧0≤a.cap∧a.cap≤1099511627776
end Go.Sl
namespace Go.Sl
open Go.Proofs Go.Shelf Go.RowKit Go.Lib Go.Sort
section
variable {α:Type}[Enc α][Inhabited α]
theorem flat_cells(d:Array α):flatK Enc.enc (Enc.sz α) d=(cells d.toList).toArray:=by
 apply Array.ext
 ·simp [cells_length]
 ·intro t h1 h2
  have h1':t<d.size*Enc.sz α:=by simpa using h1
  have hpos:0<Enc.sz α:=Enc.pos
  have hi:t / Enc.sz α<d.size:=Nat.div_lt_of_lt_mul (by rw [Nat.mul_comm];exact h1')
  have hj:t % Enc.sz α<Enc.sz α:=Nat.mod_lt _ hpos
  have e1:t=t / Enc.sz α*Enc.sz α+t % Enc.sz α:=by rw [Nat.mul_comm];exact (Nat.div_add_mod t (Enc.sz α)).symm
  have e2:=cells_get d.toList (t / Enc.sz α) (t % Enc.sz α) (by simpa using hi) hj
  rw [←e1] at e2
  have e3:(cells d.toList)[t]? = some ((cells d.toList)[t]'(by simpa using h2)):=List.getElem?_eq_getElem _
  rw [e3] at e2
  have hlen:t % Enc.sz α<(Enc.enc (d.toList[t / Enc.sz α]'(by simpa using hi))).length:=by rw [Enc.len];exact hj
  rw [List.getElem?_eq_getElem hlen] at e2
  have e4:=Option.some.inj e2
  simp only [List.getElem_toArray]
  rw [e4]
  simp [flatK,getElem!_pos,hi,Enc.len,hj]
theorem sort_base{P:Program}{ρ:Ren}{κ:Ctx}{I:List Item}(L:SlLaysF0.n6 P ρ)(aE:∀w,(isAgg (ρ.t 24)).run P w = .ok true w)(zE:∀w,(Go.sizeOf (ρ.t 24)).run P w = .ok (Enc.sz α) w)(cf:α→α→Int)(hO:SWO (ltOf cf))(g:Nat)(cb:Array Value)
  (eg:∀args w,(callFunc g args).run P w = .ok (.enter g args) w) (hcmp:∀(x y:α) (W:World),Calls P g (#[.agg (Enc.enc x).toArray,.agg (Enc.enc y).toArray]++cb) W fun e w'=>e = .returned (.int .i64 (cf x y))∧∃q os',w'=grow (W.drewN q) os')
  {e:TypeId} {ad:Option Addr} {c:Nat} {xs:List α} (hc:0<c) (hsz:xs.length<4611686018427387904) :
  CallS P κ (ρ.f 6) [.slice ad xs.length c,.func (.func g) #[] cb] (vc e (.slice ad xs.length c) xs::I) fun r J=>∃ys:List α,(r = .tuple #[]∧ys.Perm xs∧ys.Pairwise fun a b=>ltOf cf b a=false)∧J=[]++vc e (.slice ad ys.length c) ys::I:=by
 intro w hs
 obtain ⟨hok,_⟩:=hs.ok _ List.mem_cons_self
 obtain ⟨a',cap',hv,hl,hnc,hcm,hcap⟩:=hok
 cases hv
 obtain ⟨b,off,cur,rfl,hb,hsize,hcur⟩:=hcap hc
 have hbw:b<w.heap.size:=(Array.getElem?_eq_some_iff.1 hb).1
 have hcl:=cells_length xs
 have hle:xs.length*Enc.sz α≤c*Enc.sz α:=Nat.mul_le_mul_right _ hnc
 have hH:HoldsK Enc.enc (Enc.sz α) w b off xs.toArray:=fun j hj=>by
  rw [flat_cells] at hj ⊢
  have hj':j<(cells xs).length:=by simpa using hj
  have h1:=hcur j ((cells xs)[j]) (List.getElem?_eq_getElem hj')
  refine ⟨?_,by simp [World.frozen?,hb]⟩
  rw [cell_of_row w b (off+j) cur e (0,0) hb,h1]
  simp [getElem!_pos,hj']
 have h:=AnyQ.slices_SortFunc L (Enc.sz α) aE zE Enc.enc Enc.len Enc.one cf hO g cb b off c xs.toArray w eg (fun m os dk _ x y=>hcmp x y _) hH hbw (by simpa using hsz)
 refine Calls.mono h ?_
 rintro e' w' ⟨rfl,d',n,os,⟨hs1,_,hperm⟩,hsort,rfl⟩
 have hs1':d'.size=xs.length:=by simpa using hs1
 have hperm':d'.toList.Perm xs:=by
  have e1:d'.extract 0 xs.toArray.size=d':=by rw [←hs1];simp
  have e2:xs.toArray.extract 0 xs.toArray.size=xs.toArray:=by simp
  rw [e1,e2] at hperm
  exact hperm
 have hlen:d'.toList.length=xs.length:=by simpa using hs1'
 refine ⟨_,_,rfl,⟨d'.toList,⟨rfl,hperm',?_⟩,rfl⟩,?_⟩
 ·rw [List.pairwise_iff_getElem]
  intro i j hi hj hij
  have:=hsort i j (Nat.zero_le _) hij (by simpa [hs1'] using hj)
  simp only [Array.length_toList] at hi hj
  rw [getElem!_pos d' i hi,getElem!_pos d' j hj] at this
  simpa using this
 ·show Sep κ _ (vc e (.slice (some ⟨b,off,none⟩) d'.toList.length c) d'.toList::I)
  refine hs.upd (At.head _ _ _) rfl ⟨rfl,by simp [sortWorldK,putRowK,Sort.grow]⟩ rfl (by simp [sortWorldK,putRowK]) (fun k hk hne=>?_) ?_ fun k hk=> .inl ?_
  ·have hkb:k≠b:=fun ekb=>hne (by subst ekb;exact ⟨off,xs.length,c,rfl,hc⟩)
   simp only [sortWorldK,Sort.grow,putRowK,putRow,mapBlock]
   rw [Array.getElem?_append_left (by simpa using hk),Array.getElem?_modify,if_neg (fun e=>hkb e.symm)]
   rfl
  ·refine ⟨_,c,rfl,cells_length _,by rw [hlen];exact hnc,hcm,fun _=>⟨b,off,putCells id off (flatK Enc.enc (Enc.sz α) d') cur,rfl,?_,?_,fun j u hj=>?_⟩⟩
   ·simp only [sortWorldK,Sort.grow,putRowK,putRow,mapBlock]
    rw [Array.getElem?_append_left (by simpa using hbw),Array.getElem?_modify,if_pos rfl]
    show (w.heap[b]?).map _=_
    rw [hb];rfl
   ·simpa [putCells] using hsize
   ·have hj':j<(cells d'.toList).length:=(List.getElem?_eq_some_iff.1 hj).1
    have hj2:j<xs.length*Enc.sz α:=by rw [cells_length,hlen] at hj';exact hj'
    have hoff:off+j<cur.size:=by omega
    rw [flat_cells]
    simp only [putCells,Array.getElem?_mapIdx,Array.getElem?_eq_getElem hoff,Option.map_some]
    rw [if_pos ⟨by omega,by simpa using hj'⟩,Nat.add_sub_cancel_left]
    rw [List.getElem?_eq_getElem hj'] at hj
    simpa [getElem!_pos,hj'] using hj
  ·obtain ⟨o',n',c',hv',hc'⟩:=hk
   cases hv'
   exact ⟨off,xs.length,c,rfl,hc⟩
theorem sort_any{P:Program}{ρ:Ren}{κ:Ctx}{I:List Item}(L:SlLaysF0.n6 P ρ)(aE:∀w,(isAgg (ρ.t 24)).run P w = .ok true w)(zE:∀w,(Go.sizeOf (ρ.t 24)).run P w = .ok (Enc.sz α) w)(cf:α→α→Int)(hO:SWO (ltOf cf))(g:Nat)(cb:Array Value)
  (eg:∀args w,(callFunc g args).run P w = .ok (.enter g args) w) (hcmp:∀(x y:α) (W:World),Calls P g (#[.agg (Enc.enc x).toArray,.agg (Enc.enc y).toArray]++cb) W fun e w'=>e = .returned (.int .i64 (cf x y))∧∃q os',w'=grow (W.drewN q) os')
  {e:TypeId} {ad:Option Addr} {c:Nat} {xs:List α} (hsz:xs.length<4611686018427387904) :
  CallS P κ (ρ.f 6) [.slice ad xs.length c,.func (.func g) #[] cb] (vc e (.slice ad xs.length c) xs::I) fun r J=>∃ys:List α,(r = .tuple #[]∧ys.Perm xs∧ys.Pairwise fun a b=>ltOf cf b a=false)∧J=[]++vc e (.slice ad ys.length c) ys::I:=by
 by_cases hc:0<c
 ·exact sort_base L aE zE cf hO g cb eg hcmp hc hsz
 ·intro w hs
  obtain ⟨hok,_⟩:=hs.ok _ List.mem_cons_self
  obtain ⟨a',cap',hv,hl,hnc,hcm,hcap⟩:=hok
  cases hv
  obtain rfl:xs=[]:=List.eq_nil_of_length_eq_zero (by omega)
  refine Calls.mono (AnyF.slices_SortFunc_none L ad c _ w) ?_
  rintro e' w' ⟨rfl,rfl⟩
  exact ⟨_,_,rfl,⟨[],⟨rfl,List.Perm.nil,List.Pairwise.nil⟩,rfl⟩,hs⟩
end
theorem lays_of{P:Program}{f:FuncId}{args:List Value}{v:Value}{W:World}(h:CallS P ⟨W.os,W.tape,W.output,W.drawn⟩ f args [old W.heap.size W] fun r J=>r=v∧[old W.heap.size W]=J) :
  Calls P f args.toArray W fun e w'=>e = .returned v∧∃q os',w'=Sort.grow (W.drewN q) os':=(h W (Sep.begin W)).mono fun e w' ⟨r,J,he,⟨hv,hJ⟩,hs⟩=>by
 subst hv hJ
 refine ⟨he,w'.drawn - W.drawn,w'.heap.extract W.heap.size w'.heap.size,?_⟩
 have hb:=hs.below List.mem_cons_self
 have hok:∀k,k<W.heap.size→w'.heap[k]? = W.heap[k]? :=(hs.ok _ List.mem_cons_self).1
 have hd:=hs.tape.2
 have hheap:w'.heap=W.heap++w'.heap.extract W.heap.size w'.heap.size:=by
  apply Array.ext_getElem?
  intro k
  by_cases hk:k<W.heap.size
  ·rw [Array.getElem?_append_left hk];exact hok k hk
  ·rw [Array.getElem?_append_right (by omega),Array.getElem?_extract]
   have hsz:=hb.size
   by_cases hk2:k<w'.heap.size
   ·rw [if_pos (by omega)];congr 1;omega
   ·rw [Array.getElem?_eq_none (by omega)]
    split
    ·omega
    ·rfl
 have e:W.drawn+(w'.drawn - W.drawn)=w'.drawn:=by have:W.drawn≤w'.drawn:=hd;omega
 have hos:w'.os=W.os:=hs.os
 have htp:w'.tape=W.tape:=hs.tape.1
 have hou:w'.output=W.output:=hs.output
 obtain ⟨heap',tape',drawn',os',out'⟩:=w'
 simp only [Sort.grow,World.drewN] at *
 subst hos htp hou
 rw [e,←hheap]
end Go.Sl
namespace Go.Proofs
def Tryz.sort321_ren:Go.Shelf.Ren:=⟨fun |6=>321|15=>218|14=>337|28=>269|29=>270|20=>343|21=>344|22=>345|23=>346|24=>347|25=>348|26=>349|27=>350|46=>352|47=>305|48=>306|49=>353|50=>354|57=>355|n=>n,fun |22=>109|24=>146|25=>279|3=>3|39=>181|0=>0|53=>291|55=>175|4=>4|46=>285|45=>284|50=>273|5=>5|9=>9|66=>320|70=>324|76=>346|77=>259|n=>n,fun |n=>n⟩
theorem Tryz.sort321:Go.Proofs.SlLaysF0.n6 Tryz.prog Tryz.sort321_ren:={
 mixed:=by kernel_rfl,
 f6:=⟨Tryz.f321.name,by decide,Tryz.func321.trans (congrArg some (by kernel_rfl))⟩,
 f14:=⟨Tryz.f337.name,by decide,Tryz.func337.trans (congrArg some (by kernel_rfl))⟩,
 f15:=Tryz.func218.trans (congrArg some (by kernel_rfl)),
 f20:=⟨Tryz.f343.name,by decide,Tryz.func343.trans (congrArg some (by kernel_rfl))⟩,
 f21:=⟨Tryz.f344.name,by decide,Tryz.func344.trans (congrArg some (by kernel_rfl))⟩,
 f22:=⟨Tryz.f345.name,by decide,Tryz.func345.trans (congrArg some (by kernel_rfl))⟩,
 f23:=⟨Tryz.f346.name,by decide,Tryz.func346.trans (congrArg some (by kernel_rfl))⟩,
 f24:=⟨Tryz.f347.name,by decide,Tryz.func347.trans (congrArg some (by kernel_rfl))⟩,
 f25:=⟨Tryz.f348.name,by decide,Tryz.func348.trans (congrArg some (by kernel_rfl))⟩,
 f26:=⟨Tryz.f349.name,by decide,Tryz.func349.trans (congrArg some (by kernel_rfl))⟩,
 f27:=⟨Tryz.f350.name,by decide,Tryz.func350.trans (congrArg some (by kernel_rfl))⟩,
 f28:=Tryz.func269.trans (congrArg some (by kernel_rfl)),
 f29:=Tryz.func270.trans (congrArg some (by kernel_rfl)),
 f46:=⟨Tryz.f352.name,by decide,Tryz.func352.trans (congrArg some (by kernel_rfl))⟩,
 f47:=Tryz.func305.trans (congrArg some (by kernel_rfl)),
 f48:=Tryz.func306.trans (congrArg some (by kernel_rfl)),
 f49:=⟨Tryz.f353.name,by decide,Tryz.func353.trans (congrArg some (by kernel_rfl))⟩,
 f50:=⟨Tryz.f354.name,by decide,Tryz.func354.trans (congrArg some (by kernel_rfl))⟩,
 f57:=⟨Tryz.f355.name,by decide,Tryz.func355.trans (congrArg some (by kernel_rfl))⟩,
 t0:=Tryz.underlying0,
 a0:=Tryz.isAgg0,
 z0:=Tryz.sizeOf0,
 v0:=Tryz.zeroValue0,
 t3:=Tryz.underlying3,
 a3:=Tryz.isAgg3,
 z3:=Tryz.sizeOf3,
 v3:=Tryz.zeroValue3,
 t4:=Tryz.underlying4,
 a4:=Tryz.isAgg4,
 z4:=Tryz.sizeOf4,
 v4:=Tryz.zeroValue4,
 t5:=Tryz.underlying5,
 a5:=Tryz.isAgg5,
 z5:=Tryz.sizeOf5,
 v5:=Tryz.zeroValue5,
 t9:=Tryz.underlying9,
 a9:=Tryz.isAgg9,
 z9:=Tryz.sizeOf9,
 v9:=Tryz.zeroValue9,
 t22:=Tryz.underlying109,
 a22:=Tryz.isAgg109,
 z22:=Tryz.sizeOf109,
 v22:=Tryz.zeroValue109,
 t25:=Tryz.underlying279,
 a25:=Tryz.isAgg279,
 z25:=Tryz.sizeOf279,
 v25:=Tryz.zeroValue279,
 t39:=Tryz.underlying181,
 a39:=Tryz.isAgg181,
 z39:=Tryz.sizeOf181,
 v39:=Tryz.zeroValue181,
 t45:=Tryz.underlying284,
 a45:=Tryz.isAgg284,
 z45:=Tryz.sizeOf284,
 v45:=Tryz.zeroValue284,
 t46:=Tryz.underlying285,
 a46:=Tryz.isAgg285,
 z46:=Tryz.sizeOf285,
 v46:=Tryz.zeroValue285,
 t50:=Tryz.underlying273,
 a50:=Tryz.isAgg273,
 z50:=Tryz.sizeOf273,
 v50:=Tryz.zeroValue273,
 t53:=Tryz.underlying291,
 a53:=Tryz.isAgg291,
 z53:=Tryz.sizeOf291,
 v53:=Tryz.zeroValue291,
 t55:=Tryz.underlying175,
 a55:=Tryz.isAgg175,
 z55:=Tryz.sizeOf175,
 v55:=Tryz.zeroValue175,
 t66:=Tryz.underlying320,
 a66:=Tryz.isAgg320,
 z66:=Tryz.sizeOf320,
 v66:=Tryz.zeroValue320,
 t70:=Tryz.underlying324,
 a70:=Tryz.isAgg324,
 z70:=Tryz.sizeOf324,
 v70:=Tryz.zeroValue324,
 t76:=Tryz.underlying346,
 a76:=Tryz.isAgg346,
 z76:=Tryz.sizeOf346,
 v76:=Tryz.zeroValue346,
 t77:=Tryz.underlying259,
 a77:=Tryz.isAgg259,
 z77:=Tryz.sizeOf259,
 v77:=Tryz.zeroValue259}
end Go.Proofs
namespace Go.Sl
open Go.Proofs
set_option maxRecDepth 4000
theorem Order_ok{κ:Ctx}{I:List Item}(a c:Pt) :
    CallS Tryz.prog κ 154 [.agg #[I64 (a.u),I64 (a.v)],.agg #[I64 (c.u),I64 (c.v)]] I (fun r J=>r=I64 (Pt.cmp a c)∧I=J):=by
 refine Ce2 Tryz.func154 rfl rfl ?_
 refine Ah (Ge1 (Bb (cs:=[_,_]) rfl rfl rfl) fun b1=>Ge1 (Bb (cs:=[_,_]) rfl rfl rfl) fun b2=>Ga rfl (Af (Ao (Bo mixed (Bu (blk b2 [I64 (c.u),I64 (c.v)] 135::blk b1 [I64 (a.u),I64 (a.v)] 135::I) 12 (Dr 0 rfl (Aa fld135_0 rfl) (Dr 1 rfl (Au ty3) ?_)))))))
 refine Dr 2 rfl (Aa fld135_0 rfl) (Dr 3 rfl (Au ty3) ?_)
 refine Dr 5 rfl (Aa fld135_1 rfl) (Dr 6 rfl (Au ty3) ?_)
 refine Dr 7 rfl (Aa fld135_1 rfl) (Dr 8 rfl (Au ty3) ?_)
 refine Ds1 4 (Sc0 rfl (Am call225 rfl rfl (Compare_ok a.u c.u)) ?_)
 refine Ds1 9 (Sc0 rfl (Am call225 rfl rfl (Compare_ok a.v c.v)) ?_)
 refine Ds1 10 (Se1 rfl (B9 (α:=Int) (cs:=[_,_]) (xs:=[cmpI a.u c.u,cmpI a.v c.v]) Ab ty3 rfl rfl dc dc rfl rfl rfl rfl) fun ad3=>?_)
 refine Ds1 11 (Sc0 rfl (Am call224 rfl rfl (Or_ok Br)) ?_)
 refine C4 kr ?_
 refine E3 (i:=12) kr rfl (Bg rfl) rfl rfl (Bd rfl) ?_
 refine C5 kr ?_
 exact Ai (As (S1 4 rfl) (A2 (A7 rfl rfl (I) A4 ⟨by rw [←orL_cmp],rfl⟩)))
variable {κ:Ctx}{I:List Item}
structure Lk where
 u:Int
 v:Int
 w:Int
 lb:Int
 sg:Int
 tm:Int
deriving DecidableEq,Inhabited
instance:Enc Lk:=⟨fun x=>[I64 x.u,I64 x.v,I64 x.w,I64 x.lb,I64 x.sg,I64 x.tm],6,by omega,fun _=>rfl,fun x u h=>by
 simp only [List.mem_cons,List.not_mem_nil,or_false] at h
 rcases h with rfl|rfl|rfl|rfl|rfl|rfl<;>rfl⟩
theorem eqt146:EqT Tryz.prog 146 Lk:=EqT.flat (fun p:Lk=>[p.u,p.v,p.w,p.lb,p.sg,p.tm]) (fun _=>rfl) (fun x y h=>by cases x;cases y;simpa using h) (n:=6) (fun _=>rfl) kr kr kr kr kr
structure Ev where
 kd:Int
 tm:Int
 u:Int
 v:Int
 w:Int
 lb:Int
 sg:Int
deriving DecidableEq,Inhabited
instance:Enc Ev:=⟨fun x=>[I64 x.kd,I64 x.tm,I64 x.u,I64 x.v,I64 x.w,I64 x.lb,I64 x.sg],7,by omega,fun _=>rfl,fun x u h=>by
 simp only [List.mem_cons,List.not_mem_nil,or_false] at h
 rcases h with rfl|rfl|rfl|rfl|rfl|rfl|rfl<;>rfl⟩
def Lk.p(l:Lk):Pt:=⟨l.u,l.v⟩
def Lk.cmp(a c:Lk):Int:=Pt.cmp a.p c.p
def Lk.lt(a c:Lk):Prop:=Pt.lt a.p c.p
instance:DecidableRel Lk.lt:=fun a c=>by unfold Lk.lt;infer_instance
def rightW(w lb sg:Int):Prop:=1≤w∧w≤1000∧0≤lb∧lb≤15∧(sg=1∨sg = -1)
instance (w lb sg:Int):Decidable (rightW w lb sg):=by unfold rightW;infer_instance
def badL(n:Int)(l:Lk):Int:=if l.u<0∨l.v≤l.u∨n≤l.v then 6 else if ¬rightW l.w l.lb l.sg then 1 else if l.tm<0∨1048576<l.tm then 9 else 0
def checkS(n:Int)(xs:List Lk):Int:=if n<0∨64<n then 1 else scanL (badL n) Lk.lt none xs
theorem badL_zero{n:Int}{l:Lk}(h1:¬(l.u<0∨l.v≤l.u∨n≤l.v))(h2:rightW l.w l.lb l.sg)(h3:¬(l.tm<0∨1048576<l.tm)):badL n l=0:=by
 unfold badL;rw [if_neg h1,if_neg (fun h=>h h2),if_neg h3]
theorem badL_six{n:Int}{l:Lk}(h1:l.u<0∨l.v≤l.u∨n≤l.v):badL n l=6:=by unfold badL;rw [if_pos h1]
theorem badL_one{n:Int}{l:Lk}(h1:¬(l.u<0∨l.v≤l.u∨n≤l.v))(h2:¬rightW l.w l.lb l.sg):badL n l=1:=by unfold badL;rw [if_neg h1,if_pos h2]
theorem badL_nine{n:Int}{l:Lk}(h1:¬(l.u<0∨l.v≤l.u∨n≤l.v))(h2:rightW l.w l.lb l.sg)(h3:l.tm<0∨1048576<l.tm):badL n l=9:=by unfold badL;rw [if_neg h1,if_neg (fun h=>h h2),if_pos h3]
def checkW(kd wd mo:Int):Int:=if kd<1∨3<kd then 8 else if (kd=2∧(wd<1∨1048576<wd))∨(kd≠2∧wd≠0)∨(kd=3∧(mo<0∨2016<mo))∨(kd≠3∧mo≠0) then 1 else 0
theorem CheckW_ok(kd wd mo:Int) :
    CallS Tryz.prog κ 78 [.agg #[I64 (kd),I64 (wd),I64 (mo)]] I (fun r J=>r=I64 (checkW kd wd mo)∧I=J):=by
 refine Ce1 Tryz.func78 rfl rfl ?_
 refine Ah (Ge1 (Bb (cs:=[_,_,_]) rfl rfl rfl) fun b1=>Ga rfl (Af (Ah (Ga rfl (Ga rfl (Af (Ao (Ah (Gf fld31_0 rfl (Gl ty3 ?_))))))))))
 refine Af (Ax (Ah (Gr (Bs rfl rfl) (Ga rfl (Af (A9 rfl (fun c7=>?_) (fun c7=>?_)))))))
 ·refine A0 (Aj (Ai (Ao (Ah (Gf fld31_1 rfl (Gl ty3 ?_))))))
  refine Gm rfl (Gr (Bv rfl rfl) (Gm rfl (Bi (d:=37) rfl (fun g37=>?_) (fun g37=>?_))))
  ·exact Gpo (Gpo (Gpo (Gpo (Gr (Ap rfl rfl) (Af (As (S1 42 rfl) (Cl rfl (Ah (Ga rfl (Af (A2 (Al (A7 rfl rfl (I) A4 ⟨by rw [show checkW kd wd mo=1 from by unfold checkW;split<;>first|rfl|omega|(split<;>first|rfl|omega)],rfl⟩)))))))))))))
  ·refine Gro (Aa fld31_2 rfl) (Gro (Au ty3) ?_)
   refine Gro (Ad rfl) (Gro (Bv rfl rfl) (Gr (Av rfl rfl) (Af (As (S1 42 rfl) (A9 rfl (fun c42=>?_) (fun c42=>?_))))))
   ·exact Ah (Ga rfl (Af (A2 (Al (A7 rfl rfl (I) A4 ⟨by rw [show checkW kd wd mo=1 from by unfold checkW;split<;>first|rfl|omega|(split<;>first|rfl|omega)],rfl⟩)))))
   ·exact A0 (Ai (Ah (Ga rfl (Af (A2 (A7 rfl rfl (I) A4 ⟨by rw [show checkW kd wd mo=0 from by unfold checkW;split<;>first|rfl|omega|(split<;>first|rfl|omega)],rfl⟩))))))
 ·refine Ah (Gr (Bs rfl rfl) (Ga rfl (Af (A9 rfl (fun c9=>?_) (fun c9=>?_)))))
  ·refine Ao (Ah (Gf fld31_1 rfl (Gl ty3 ?_)))
   refine Gr (Bc rfl rfl) (Gm rfl (Bi (d:=14) rfl (fun g14=>?_) (fun g14=>?_)))
   ·exact Gpo (Gpo (Gpo (Gr (Ap rfl rfl) (Af (As (S3 18 4 1 rfl rfl rfl) (Cl rfl (Ah (Ga rfl (Af (A2 (Al (Ar (Al (A7 rfl rfl (I) A4 ⟨by rw [show checkW kd wd mo=1 from by unfold checkW;split<;>first|rfl|omega|(split<;>first|rfl|omega)],rfl⟩))))))))))))))
   ·refine Gro (Aa fld31_1 rfl) (Gro (Au ty3) ?_)
    refine Gro (B5 rfl rfl) (Gr (Av rfl rfl) (Af (As (S3 18 4 1 rfl rfl rfl) (A9 rfl (fun c18=>?_) (fun c18=>?_)))))
    ·exact Ah (Ga rfl (Af (A2 (Al (Ar (Al (A7 rfl rfl (I) A4 ⟨by rw [show checkW kd wd mo=1 from by unfold checkW;split<;>first|rfl|omega|(split<;>first|rfl|omega)],rfl⟩)))))))
    ·refine A0 (Ai (Aw (Gf fld31_1 rfl (Gl ty3 ?_))))
     refine Ga rfl (Bj (Aj (Ai (Ao (Ah (Gf fld31_1 rfl (Gl ty3 ?_)))))))
     refine Gm rfl (Gr (Bv rfl rfl) (Gm rfl (Bi (d:=37) rfl (fun g37=>?_) (fun g37=>?_))))
     ·exact Gpo (Gpo (Gpo (Gpo (Gr (Ap rfl rfl) (Af (As (S1 42 rfl) (Cl rfl (Ah (Ga rfl (Af (A2 (Al (A7 rfl rfl (I) A4 ⟨by rw [show checkW kd wd mo=1 from by unfold checkW;split<;>first|rfl|omega|(split<;>first|rfl|omega)],rfl⟩)))))))))))))
     ·refine Gro (Aa fld31_2 rfl) (Gro (Au ty3) ?_)
      refine Gro (Ad rfl) (Gro (Bv rfl rfl) (Gr (Av rfl rfl) (Af (As (S1 42 rfl) (A9 rfl (fun c42=>?_) (fun c42=>?_))))))
      ·exact Ah (Ga rfl (Af (A2 (Al (A7 rfl rfl (I) A4 ⟨by rw [show checkW kd wd mo=1 from by unfold checkW;split<;>first|rfl|omega|(split<;>first|rfl|omega)],rfl⟩)))))
      ·exact A0 (Ai (Ah (Ga rfl (Af (A2 (A7 rfl rfl (I) A4 ⟨by rw [show checkW kd wd mo=0 from by unfold checkW;split<;>first|rfl|omega|(split<;>first|rfl|omega)],rfl⟩))))))
  ·refine Ah (Gr (Bs rfl rfl) (Ga rfl (Af (A9 rfl (fun c21=>?_) (fun c21=>?_)))))
   ·refine Ao (Ah (Gf fld31_2 rfl (Gl ty3 ?_)))
    refine Gr (Bc rfl rfl) (Gm rfl (Bi (d:=26) rfl (fun g26=>?_) (fun g26=>?_)))
    ·exact Gpo (Gpo (Gpo (Gr (Ap rfl rfl) (Af (As (S3 30 3 1 rfl rfl rfl) (Cl rfl (Ah (Ga rfl (Af (A2 (Al (Ar (Al (A7 rfl rfl (I) A4 ⟨by rw [show checkW kd wd mo=1 from by unfold checkW;split<;>first|rfl|omega|(split<;>first|rfl|omega)],rfl⟩))))))))))))))
    ·refine Gro (Aa fld31_2 rfl) (Gro (Au ty3) ?_)
     refine Gro (B5 rfl rfl) (Gr (Av rfl rfl) (Af (As (S3 30 3 1 rfl rfl rfl) (A9 rfl (fun c30=>?_) (fun c30=>?_)))))
     ·exact Ah (Ga rfl (Af (A2 (Al (Ar (Al (A7 rfl rfl (I) A4 ⟨by rw [show checkW kd wd mo=1 from by unfold checkW;split<;>first|rfl|omega|(split<;>first|rfl|omega)],rfl⟩)))))))
     ·refine A0 (Ai (Aw (Gf fld31_2 rfl (Gl ty3 ?_))))
      refine Ga rfl (Bj (Aj (Ai (Ao (Ah (Gf fld31_1 rfl (Gl ty3 ?_)))))))
      refine Gm rfl (Gr (Bv rfl rfl) (Gm rfl (Bi (d:=37) rfl (fun g37=>?_) (fun g37=>?_))))
      ·exact Gpo (Gpo (Gpo (Gpo (Gr (Ap rfl rfl) (Af (As (S1 42 rfl) (Cl rfl (Ah (Ga rfl (Af (A2 (Al (A7 rfl rfl (I) A4 ⟨by rw [show checkW kd wd mo=1 from by unfold checkW;split<;>first|rfl|omega|(split<;>first|rfl|omega)],rfl⟩)))))))))))))
      ·refine Gro (Aa fld31_2 rfl) (Gro (Au ty3) ?_)
       refine Gro (Ad rfl) (Gro (Bv rfl rfl) (Gr (Av rfl rfl) (Af (As (S1 42 rfl) (A9 rfl (fun c42=>?_) (fun c42=>?_))))))
       ·exact Ah (Ga rfl (Af (A2 (Al (A7 rfl rfl (I) A4 ⟨by rw [show checkW kd wd mo=1 from by unfold checkW;split<;>first|rfl|omega|(split<;>first|rfl|omega)],rfl⟩)))))
       ·exact A0 (Ai (Ah (Ga rfl (Af (A2 (A7 rfl rfl (I) A4 ⟨by rw [show checkW kd wd mo=0 from by unfold checkW;split<;>first|rfl|omega|(split<;>first|rfl|omega)],rfl⟩))))))
   ·exact Ah (Ga rfl (Af (As (S1 2 rfl) (A2 (Ar (Al (A7 rfl rfl (I) A4 ⟨by rw [show checkW kd wd mo=8 from by unfold checkW;split<;>first|rfl|omega|(split<;>first|rfl|omega)],rfl⟩)))))))
theorem RightW_ok(w lb sg:Int) :
    CallS Tryz.prog κ 251 [I64 (w),I64 (lb),I64 (sg)] I (fun r J=>r = .bool (decide (rightW w lb sg))∧I=J):=by
 refine Ce3 Tryz.func251 rfl rfl ?_
 refine Ah (Ga rfl (Af (Ah (Gm rfl (Gr (Cg rfl rfl) (Gm rfl (Bi (d:=9) rfl (fun g9=>?_) (fun g9=>?_))))))))
 ·refine Gro (Ad rfl) (Gro (Dw rfl rfl) (Gr (Ap rfl rfl) (Gm rfl (Bi (d:=13) rfl (fun g13=>?_) (fun g13=>?_)))))
  ·refine Gro (Ad rfl) (Gro (Cg rfl rfl) (Gr (Ap rfl rfl) (Gm rfl (Bi (d:=17) rfl (fun g17=>?_) (fun g17=>?_)))))
   ·refine Gro (Ad rfl) (Gro (Dw rfl rfl) (Gr (Ap rfl rfl) (Gm rfl (Bi (d:=21) rfl (fun g21=>?_) (fun g21=>?_)))))
    ·refine Gro (Ad rfl) (Gro (Bs rfl rfl) (Gro (Ad rfl) (Bi (d:=24) rfl (fun g24=>?_) (fun g24=>?_))))
     ·exact Gpo (Gpo (Gro (Ap rfl rfl) (Gr (Ap rfl rfl) (Ga rfl (Af (As (S1 6 rfl) (A2 (A7 rfl rfl (I) A4 ⟨(by first|exact congrArg Value.bool (decide_eq_decide.2 (by unfold rightW;omega))|exact congrArg Value.bool (decide_eq_true (by unfold rightW;omega)).symm|exact congrArg Value.bool (decide_eq_false (by unfold rightW;omega)).symm),rfl⟩))))))))
     ·exact Gro (Ad rfl) (Gro (Bs rfl rfl) (Gro (Av rfl rfl) (Gr (Ap rfl rfl) (Ga rfl (Af (As (S1 6 rfl) (A2 (A7 rfl rfl (I) A4 ⟨(by first|exact congrArg Value.bool (decide_eq_decide.2 (by unfold rightW;omega))|exact congrArg Value.bool (decide_eq_true (by unfold rightW;omega)).symm|exact congrArg Value.bool (decide_eq_false (by unfold rightW;omega)).symm),rfl⟩))))))))
    ·exact Gpo (Gpo (Gpo (Gpu (Gpu (Gpo (Gr (Av rfl rfl) (Ga rfl (Af (As (S1 6 rfl) (A2 (A7 rfl rfl (I) A4 ⟨(by first|exact congrArg Value.bool (decide_eq_decide.2 (by unfold rightW;omega))|exact congrArg Value.bool (decide_eq_true (by unfold rightW;omega)).symm|exact congrArg Value.bool (decide_eq_false (by unfold rightW;omega)).symm),rfl⟩)))))))))))
   ·exact Gpo (Gpo (Gr (Av rfl rfl) (Gm rfl (Gpo (Gpo (Gpo (Gpu (Gpu (Gpo (Gr (Av rfl rfl) (Ga rfl (Af (As (S1 6 rfl) (A2 (A7 rfl rfl (I) A4 ⟨(by first|exact congrArg Value.bool (decide_eq_decide.2 (by unfold rightW;omega))|exact congrArg Value.bool (decide_eq_true (by unfold rightW;omega)).symm|exact congrArg Value.bool (decide_eq_false (by unfold rightW;omega)).symm),rfl⟩)))))))))))))))
  ·exact Gpo (Gpo (Gr (Av rfl rfl) (Gm rfl (Gpo (Gpo (Gr (Av rfl rfl) (Gm rfl (Gpo (Gpo (Gpo (Gpu (Gpu (Gpo (Gr (Av rfl rfl) (Ga rfl (Af (As (S1 6 rfl) (A2 (A7 rfl rfl (I) A4 ⟨(by first|exact congrArg Value.bool (decide_eq_decide.2 (by unfold rightW;omega))|exact congrArg Value.bool (decide_eq_true (by unfold rightW;omega)).symm|exact congrArg Value.bool (decide_eq_false (by unfold rightW;omega)).symm),rfl⟩)))))))))))))))))))
 ·exact Gpo (Gpo (Gr (Av rfl rfl) (Gm rfl (Gpo (Gpo (Gr (Av rfl rfl) (Gm rfl (Gpo (Gpo (Gr (Av rfl rfl) (Gm rfl (Gpo (Gpo (Gpo (Gpu (Gpu (Gpo (Gr (Av rfl rfl) (Ga rfl (Af (As (S1 6 rfl) (A2 (A7 rfl rfl (I) A4 ⟨(by first|exact congrArg Value.bool (decide_eq_decide.2 (by unfold rightW;omega))|exact congrArg Value.bool (decide_eq_true (by unfold rightW;omega)).symm|exact congrArg Value.bool (decide_eq_false (by unfold rightW;omega)).symm),rfl⟩)))))))))))))))))))))))
theorem OrderL_ok(a c:Lk) :
    CallS Tryz.prog κ 255 [.agg #[I64 (a.u),I64 (a.v),I64 (a.w),I64 (a.lb),I64 (a.sg),I64 (a.tm)],.agg #[I64 (c.u),I64 (c.v),I64 (c.w),I64 (c.lb),I64 (c.sg),I64 (c.tm)]] I (fun r J=>r=I64 (Lk.cmp a c)∧I=J):=by
 refine Ce2 Tryz.func255 rfl rfl ?_
 refine Ah (Ge1 (Bb (cs:=[_,_,_,_,_,_]) rfl rfl rfl) fun b1=>Ge1 (Bb (cs:=[_,_,_,_,_,_]) rfl rfl rfl) fun b2=>Ga rfl (Af (Ao (Bo mixed (Bu (blk b2 [I64 (c.u),I64 (c.v),I64 (c.w),I64 (c.lb),I64 (c.sg),I64 (c.tm)] 146::blk b1 [I64 (a.u),I64 (a.v),I64 (a.w),I64 (a.lb),I64 (a.sg),I64 (a.tm)] 146::I) 12 (Dr 0 rfl (Aa fld146_0 rfl) (Dr 1 rfl (Au ty3) ?_)))))))
 refine Dr 2 rfl (Aa fld146_0 rfl) (Dr 3 rfl (Au ty3) ?_)
 refine Dr 5 rfl (Aa fld146_1 rfl) (Dr 6 rfl (Au ty3) ?_)
 refine Dr 7 rfl (Aa fld146_1 rfl) (Dr 8 rfl (Au ty3) ?_)
 refine Ds1 4 (Sc0 rfl (Am call225 rfl rfl (Compare_ok a.u c.u)) ?_)
 refine Ds1 9 (Sc0 rfl (Am call225 rfl rfl (Compare_ok a.v c.v)) ?_)
 refine Ds1 10 (Se1 rfl (B9 (α:=Int) (cs:=[_,_]) (xs:=[cmpI a.u c.u,cmpI a.v c.v]) Ab ty3 rfl rfl dc dc rfl rfl rfl rfl) fun ad3=>?_)
 refine Ds1 11 (Sc0 rfl (Am call224 rfl rfl (Or_ok Br)) ?_)
 refine C4 kr ?_
 refine E3 (i:=12) kr rfl (Bg rfl) rfl rfl (Bd rfl) ?_
 refine C5 kr ?_
 exact Ai (As (S1 4 rfl) (A2 (A7 rfl rfl (I) A4 ⟨by rw [show Lk.cmp a c=Pt.cmp ⟨a.u,a.v⟩ ⟨c.u,c.v⟩ from rfl,←orL_cmp],rfl⟩)))
end Go.Sl
namespace Go.Sl
end Go.Sl
namespace Go.Sl
open Go.Proofs
set_option maxRecDepth 4000
theorem at_drop{α:Type}[Inhabited α](xs:List α)(l:Nat)(i:Int)(h0:0≤i):at_ (xs.drop l) i=at_ xs ((l:Int)+i):=by
 unfold at_
 rw [List.getD_eq_getElem?_getD,List.getD_eq_getElem?_getD,List.getElem?_drop]
 congr 2;omega
theorem Lk.cmp_lt(a c:Lk):Lk.cmp a c<0↔Lk.lt a c:=Pt.cmp_lt _ _
def askE(nd:Int)(xs:List Lk)(kd wd mo nw:Int):Int:=if checkW kd wd mo≠0 then checkW kd wd mo else if checkS nd xs≠0 then checkS nd xs else if nw<0∨1048576<nw∨xs.any (fun x=>decide (nw<x.tm))=true then 9 else 0
theorem CheckS_ok{κ:Ctx}{I:List Item}{nd:Int}{va:Value}{xs:List Lk}(hl:Sl κ I va xs) :
    CallS Tryz.prog κ 214 [.agg #[I64 (nd),va]] I (fun r J=>r=I64 (checkS nd xs)∧I=J):=by
 refine B4 hl.le fun hmax=>?_
 refine Ce1 Tryz.func214 rfl rfl ?_
 refine Ah (Ge1 (Bb (cs:=[_,_]) rfl rfl rfl) fun b1=>Ga rfl (Af (Ao (Ah (Gf fld111_0 rfl (Gl ty3 ?_))))))
 refine Gr (Bc rfl rfl) (Gm rfl (Bi (d:=8) rfl (fun g8=>?_) (fun g8=>?_)))
 ·exact Gpo (Gpo (Gpo (Gr (Ap rfl rfl) (Af (Cl rfl (Ah (Ga rfl (Af (A2 (Al (A7 rfl rfl (I) A4 ⟨by rw [show checkS nd xs=1 from (by first|(unfold checkS;rw [if_pos om];done)|exact hs.trans ((Dh om (by rw [badL_one om asm];decide)).trans (badL_one om asm)))],rfl⟩)))))))))))
 ·refine Gro (Aa fld111_0 rfl) (Gro (Au ty3) ?_)
  refine Gro (B5 rfl rfl) (Gr (Av rfl rfl) (Af (A9 rfl (fun c12=>?_) (fun c12=>?_))))
  ·exact Ah (Ga rfl (Af (A2 (Al (A7 rfl rfl (I) A4 ⟨by rw [show checkS nd xs=1 from (by first|(unfold checkS;rw [if_pos om];done)|exact hs.trans ((Dh om (by rw [badL_one om asm];decide)).trans (badL_one om asm)))],rfl⟩)))))
  ·refine A0 (Ai (Ao (Ah (Gf fld111_1 rfl (Gl ty109 ?_)))))
   refine Gr (Bz (α:=Lk) (xs:=xs) A3 rfl (Bf hl)) (Gm rfl (Af (As (S4 16 15 14 1 rfl rfl rfl rfl) (Ax (Bx (σ:=Nat) (fun s=>([(1,.pointer (some ⟨b1,0,none⟩)),(14,va),(15,I64 (((xs.length:Nat):Int))),(16,I64 (((s:Nat):Int)))]:Env)) (fun s=>blk b1 [I64 (nd),va] 111::I) (fun s=>(s≤xs.length)∧(checkS nd xs=scanL (badL nd) Lk.lt (prevAt xs s) (xs.drop s))) (fun s=>xs.length - s) (0) (show ((0:Nat)≤xs.length)∧(checkS nd xs=scanL (badL nd) Lk.lt (prevAt xs (0:Nat)) (xs.drop (0:Nat))) from ⟨om,(by unfold checkS;rw [if_neg om];rfl)⟩) (Ac rfl (Ac rfl (Ac rfl (Ac Cb Bq)))) (show Fit κ _ (blk b1 [I64 (nd),va] 111::I) from Ay) ?_)))))
   rintro k hp
   obtain ⟨hk,hs⟩:=hp
   refine Ah (Gr (Bc rfl rfl) (Af (Ao (A9 rfl (fun c17=>?_) (fun c17=>?_)))))
   ·refine A0 (Ai (Ao (Ax (Ah (Gm rfl (Gr (A8 (α:=Lk) (xs:=xs) A3 ty146 rfl rfl (Bf hl) om om) (Gr (B0 (α:=Lk) (xs:=xs) ty146 rfl (Bf hl) om om) (Ge1 (A5 ty146 rfl) fun b2=>Ga rfl (Ge0 (Ej ty146) ?_)))))))))
    refine Af (Ax (Ah (Gf fld146_0 rfl (Gl ty3 ?_))))
    refine Gr (Bc rfl rfl) (Gm rfl (Bi (d:=25) rfl (fun g25=>?_) (fun g25=>?_)))
    ·exact Gpo (Gpo (Gpo (Gpo (Gpo (Gr (Ap rfl rfl) (Gm rfl (Gpo (Gpo (Gpo (Gpo (Gpo (Gr (Ap rfl rfl) (Ga rfl (Af (As (S7 21 3 4 1 14 15 16 rfl rfl rfl rfl rfl rfl rfl) (Cl rfl (Ah (Ga rfl (Af (A2 (Ar (Ar (Al (Al (Ar (Al (A7 rfl rfl (I) A4 ⟨by rw [show checkS nd xs=6 from (hs.trans ((Dh om (by rw [badL_six om];decide)).trans (badL_six om)))],rfl⟩)))))))))))))))))))))))))))
    ·refine Gro (Aa fld146_0 rfl) (Gro (Au ty3) ?_)
     refine Gro (Aa fld146_1 rfl) (Gro (Au ty3) ?_)
     refine Gro (Cg rfl rfl) (Gr (Av rfl rfl) (Gm rfl (Bi (d:=32) rfl (fun g32=>?_) (fun g32=>?_))))
     ·exact Gpo (Gpo (Gpo (Gpo (Gpo (Gr (Ap rfl rfl) (Ga rfl (Af (As (S7 21 3 4 1 14 15 16 rfl rfl rfl rfl rfl rfl rfl) (Cl rfl (Ah (Ga rfl (Af (A2 (Ar (Ar (Al (Al (Ar (Al (A7 rfl rfl (I) A4 ⟨by rw [show checkS nd xs=6 from (hs.trans ((Dh om (by rw [badL_six om];decide)).trans (badL_six om)))],rfl⟩))))))))))))))))))))
     ·refine Gro (Aa fld146_1 rfl) (Gro (Au ty3) ?_)
      refine Gro (Aa fld111_0 rfl) (Gro (Au ty3) ?_)
      refine Gro (Cg rfl rfl) (Gr (Av rfl rfl) (Ga rfl (Af (As (S7 21 3 4 1 14 15 16 rfl rfl rfl rfl rfl rfl rfl) (A9 rfl (fun c21=>?_) (fun c21=>?_))))))
      ·exact Ah (Ga rfl (Af (A2 (Ar (Ar (Al (Al (Ar (Al (A7 rfl rfl (I) A4 ⟨by rw [show checkS nd xs=6 from (hs.trans ((Dh om (by rw [badL_six om];decide)).trans (badL_six om)))],rfl⟩))))))))))
      ·refine Ah (Gf fld146_2 rfl (Gl ty3 ?_))
       refine Gf fld146_3 rfl (Gl ty3 ?_)
       refine Gf fld146_4 rfl (Gl ty3 ?_)
       refine Gc0 (Am call251 rfl rfl (RightW_ok ((at_ xs (k:Int)).w) ((at_ xs (k:Int)).lb) ((at_ xs (k:Int)).sg))) ?_
       refine Gr (C7 rfl) (Ga rfl (Af (As (S7 39 3 4 1 14 15 16 rfl rfl rfl rfl rfl rfl rfl) (A9 rfl (fun c39=>?_) (fun c39=>?_)))))
       ·exact Ah (Ga rfl (Af (A2 (Ar (Ar (Al (Al (Ar (Al (A7 rfl rfl (I) A4 ⟨by rw [show checkS nd xs=1 from (by first|(unfold checkS;rw [if_pos om];done)|exact hs.trans ((Dh om (by rw [badL_one om asm];decide)).trans (badL_one om asm)))],rfl⟩))))))))))
       ·refine Ah (Gf fld146_5 rfl (Gl ty3 ?_))
        refine Gr (Bc rfl rfl) (Gm rfl (Bi (d:=52) rfl (fun g52=>?_) (fun g52=>?_)))
        ·exact Gpo (Gpo (Gpo (Gr (Ap rfl rfl) (Ga rfl (Af (As (S7 48 3 4 1 14 15 16 rfl rfl rfl rfl rfl rfl rfl) (Cl rfl (Ah (Ga rfl (Af (A2 (Ar (Ar (Al (Al (Ar (Al (A7 rfl rfl (I) A4 ⟨by rw [show checkS nd xs=9 from (hs.trans ((Dh om (by rw [badL_nine om (by first|assumption|exact Classical.not_not.1 asm|exact Classical.byContradiction fun h=>c47 (by rw [if_neg h];decide)) om];decide)).trans (badL_nine om (by first|assumption|exact Classical.not_not.1 asm|exact Classical.byContradiction fun h=>c47 (by rw [if_neg h];decide)) om)))],rfl⟩))))))))))))))))))
        ·refine Gro (Aa fld146_5 rfl) (Gro (Au ty3) ?_)
         refine Gro (B5 rfl rfl) (Gr (Av rfl rfl) (Ga rfl (Af (As (S7 48 3 4 1 14 15 16 rfl rfl rfl rfl rfl rfl rfl) (A9 rfl (fun c48=>?_) (fun c48=>?_))))))
         ·exact Ah (Ga rfl (Af (A2 (Ar (Ar (Al (Al (Ar (Al (A7 rfl rfl (I) A4 ⟨by rw [show checkS nd xs=9 from (hs.trans ((Dh om (by rw [badL_nine om (by first|assumption|exact Classical.not_not.1 asm|exact Classical.byContradiction fun h=>c47 (by rw [if_neg h];decide)) om];decide)).trans (badL_nine om (by first|assumption|exact Classical.not_not.1 asm|exact Classical.byContradiction fun h=>c47 (by rw [if_neg h];decide)) om)))],rfl⟩))))))))))
         ·refine Ao (Bo mixed (Bu (blk b2 [I64 ((at_ xs (k:Int)).u),I64 ((at_ xs (k:Int)).v),I64 ((at_ xs (k:Int)).w),I64 ((at_ xs (k:Int)).lb),I64 ((at_ xs (k:Int)).sg),I64 ((at_ xs (k:Int)).tm)] 146::blk b1 [I64 (nd),va] 111::I) 14 (Dr 0 rfl (Ad rfl) (Dr 1 rfl (B5 rfl rfl) (Dr 2 rfl (Ad rfl) (D1 (d:=60) rfl (fun g60=>?_) (fun g60=>?_)))))))
          ·refine Dro 3 rfl (Aa fld111_1 rfl) (Dro 4 rfl (Au ty109) ?_)
           refine Dro 5 rfl (Ad rfl) (Dro 6 rfl (Rsu rfl rfl) (Dro 7 rfl (A8 (α:=Lk) (xs:=xs) A3 ty146 rfl rfl (Bf hl) om om) (Dro 8 rfl (B0 (α:=Lk) (xs:=xs) ty146 rfl (Bf hl) om om) (Dro 9 rfl (Bm (vs:=[_,_,_,_,_,_]) ty146) ?_))))
           refine Ds1 10 (Sc0 rfl (Am call255 rfl rfl (OrderL_ok (at_ xs ((k:Int) - 1)) (at_ xs (k:Int)))) ?_)
           refine Dro 11 rfl (Cg rfl rfl) (Dr 12 rfl (Ap rfl rfl) (Dr 13 rfl (Bd rfl) (Dz (Ai (As (S5 57 1 14 15 16 rfl rfl rfl rfl rfl) (A9 rfl (fun c57=>?_) (fun c57=>?_)))))))
           ·exact Ah (Ga rfl (Af (A2 (Ar (Ar (Al (Al (Ar (Al (A7 rfl rfl (I) A4 ⟨by rw [show checkS nd xs=5 from (hs.trans (scanL_order om (badL_zero om (by first|assumption|exact Classical.not_not.1 asm|exact Classical.byContradiction fun h=>c47 (by rw [if_neg h];decide)) om) om (by first|assumption|(intro h;have:=(Lk.cmp_lt _ _).2 h;omega))))],rfl⟩))))))))))
           ·exact A0 (Aj (Aj (Ai (Aw (Gr (Rad rfl rfl) (Gm rfl (Bj (B6 ((k+1)) ⟨om,(hs.trans (E8 om (badL_zero om (by first|assumption|exact Classical.not_not.1 asm|exact Classical.byContradiction fun h=>c47 (by rw [if_neg h];decide)) om) (fun h0=>by first|omega|exact (Lk.cmp_lt _ _).1 om|exact Classical.not_not.1 asm)))⟩))))))))
          ·exact Dpo 3 rfl (Dpo 4 rfl (Dpo 5 rfl (Dpo 6 rfl (Dpo 7 rfl (Dpo 8 rfl (Dpo 9 rfl (Dpo 10 rfl (Dpo 11 rfl (Dr 12 rfl (Av rfl rfl) (Dr 13 rfl (Bd rfl) (Dz (Ai (As (S5 57 1 14 15 16 rfl rfl rfl rfl rfl) (Cx rfl (A0 (Aj (Aj (Ai (Aw (Gr (Rad rfl rfl) (Gm rfl (Bj (B6 ((k+1)) ⟨om,(hs.trans (E8 om (badL_zero om (by first|assumption|exact Classical.not_not.1 asm|exact Classical.byContradiction fun h=>c47 (by rw [if_neg h];decide)) om) (fun h0=>by first|omega|exact (Lk.cmp_lt _ _).1 om|exact Classical.not_not.1 asm)))⟩)))))))))))))))))))))))
   ·exact Bt (Ak (Ak (A6 (Ai (Ah (Ga rfl (Af (A2 (A7 rfl rfl (I) A4 ⟨by rw [show checkS nd xs=0 from (hs.trans (scanL_end om))],rfl⟩)))))))))
variable {κ:Ctx}{I:List Item}
theorem All1_ok(x:Lk) :
    CallS Tryz.prog κ 295 [.agg #[I64 (x.u),I64 (x.v),I64 (x.w),I64 (x.lb),I64 (x.sg),I64 (x.tm)]] I (fun r J=>r = .bool true∧I=J):=by
 refine Ce1 Tryz.func295 rfl rfl ?_
 exact Ah (Ge1 (Bb (cs:=[_,_,_,_,_,_]) rfl rfl rfl) fun b1=>Ga rfl (Af (Ah (Ga rfl (Af (A2 (A7 rfl rfl (I) A4 ⟨rfl,rfl⟩)))))))
theorem Age1_ok{b c:Nat}{nw kd wd mo:Int}(hb:BlkRd κ I b [I64 nw] 3)(hc:BlkRd κ I c [I64 kd,I64 wd,I64 mo] 31)(x:Lk) :
    CallS Tryz.prog κ 297 [.agg #[I64 (x.u),I64 (x.v),I64 (x.w),I64 (x.lb),I64 (x.sg),I64 (x.tm)],.pointer (some ⟨b,0,none⟩),.pointer (some ⟨c,0,none⟩)] I (fun r J=>r = .bool (decide (IntKind.i64.wrap (nw - x.tm)<wd))∧I=J):=by
 refine Ce3 Tryz.func297 rfl rfl ?_
 refine Ah (Ge1 (Bb (cs:=[_,_,_,_,_,_]) rfl rfl rfl) fun b1=>Ga rfl (Af (Ah (Gr (Da ty3 rfl (C2 hb A4) rfl) (Gf fld146_5 rfl (Gl ty3 ?_))))))
 exact Gr (Runs.subw rfl rfl) (Gf fld31_1 rfl (Gr (Da ty3 rfl (C2 hc A4) rfl) (Gr (Bc rfl rfl) (Ga rfl (Af (A2 (A7 rfl rfl (I) A4 ⟨rfl,rfl⟩)))))))
theorem Rule1_ok{nd kd wd mo nw:Int}{va:Value} :
    CallS Tryz.prog κ 294 [.agg #[I64 (nd),va],.agg #[I64 (kd),I64 (wd),I64 (mo)],I64 (nw)] I (fun r J=>r = .func (.func 295) #[] #[]∧I=J):=by
 refine Ce3 Tryz.func294 rfl rfl ?_
 exact Ah (Ge1 (Bb (cs:=[_,_]) rfl rfl rfl) fun b1=>Ge1 (Bb (cs:=[_,_,_]) rfl rfl rfl) fun b2=>Ga rfl (Af (Ah (Ga rfl (Af (A2 (A7 rfl rfl (I) A4 ⟨rfl,rfl⟩)))))))
theorem Rule2_ok{nd kd wd mo nw:Int}{va:Value} :
    CallS Tryz.prog κ 296 [.agg #[I64 (nd),va],.agg #[I64 (kd),I64 (wd),I64 (mo)],I64 (nw)] I (fun r J=>∃b c,r = .func (.func 297) #[] #[.pointer (some ⟨b,0,none⟩),.pointer (some ⟨c,0,none⟩)]∧J=blk b [I64 nw] 3::blk c [I64 kd,I64 wd,I64 mo] 31::I):=by
 refine Ce3 Tryz.func296 rfl rfl ?_
 exact Ah (Ge1 (Bb (cs:=[_,_]) rfl rfl rfl) fun b1=>Ge1 (Bb (cs:=[_,_,_]) rfl rfl rfl) fun b2=>Ge1 (Bb (cs:=[_]) rfl rfl rfl) fun b3=>Ga rfl (Af (Ah (Gr (Dv rfl rfl) (Ga rfl (Af (A2 (A7 rfl rfl (blk b3 [I64 (nw)] 3::blk b2 [I64 (kd),I64 (wd),I64 (mo)] 31::I) Ay ⟨b3,b2,rfl,rfl⟩))))))))
theorem Rules_ok  :
    CallS Tryz.prog κ 253 [] I (fun r J=>∃m,r = .map (some m)∧J=mp m [({key:=I64 (1),val:= .func (.func 294) #[] #[],born:=0}:MapEntry),({key:=I64 (2),val:= .func (.func 296) #[] #[],born:=1}:MapEntry),({key:=I64 (3),val:= .func (.func 298) #[] #[],born:=2}:MapEntry)] 3::I):=by
 refine Ce0 Tryz.func253 rfl rfl ?_
 refine Ah (Ga rfl (Af (Ah (Ge1 (Eff.makeMap rfl) fun mr1=>?_))))
 refine Ge0 (C3 Dk Bl rfl rfl rfl rfl rfl am) ?_
 refine Ge0 (C3 Dk Bl rfl rfl rfl rfl rfl am) ?_
 refine Ge0 (C3 Dk Bl rfl rfl rfl rfl rfl am) ?_
 exact Gm rfl (Ga rfl (Af (A2 (A7 rfl rfl (mp mr1 [({key:=I64 (1),val:= .func (.func 294) #[] #[],born:=0}:MapEntry),({key:=I64 (2),val:= .func (.func 296) #[] #[],born:=1}:MapEntry),({key:=I64 (3),val:= .func (.func 298) #[] #[],born:=2}:MapEntry)] 3::I) Ay ⟨mr1,rfl,rfl⟩))))
end Go.Sl
