/- A part of the proofs of statements of this seat: contracts of functions, and the plain laws that they lean on. No conditions. -/
import Derived.Test.YtfkcohmipjhfcaaGreatDoorG7
import Derived.Shelf.SortM.Plain
import Derived.Shelf.SortM.SortNone
set_option linter.unusedVariables false
set_option linter.unusedSimpArgs false
set_option linter.unusedSectionVars false
namespace Go.Sl
open Go.Proofs
set_option maxRecDepth 4000
set_option maxHeartbeats 1000000 in
theorem CutP_base{κ:Ctx}{I:List Item}{nw:Int}{a0:Option Addr}{c0:Nat}{xs:List Lk}{g:FuncId}{cp_:List Value}{p:Lk→Bool}(hcb:Says Tryz.prog κ (vc 146 (.slice a0 xs.length c0) xs::I) g cp_ p)(hsz:xs.length≤1000000) :
    CallS Tryz.prog κ 257 [.slice a0 xs.length c0,I64 (nw),.func (.func g) #[] cp_.toArray] (vc 146 (.slice a0 xs.length c0) (xs)::I) (fun r J=>∃y:Option Addr×Nat×Value,(r = .tuple #[.slice y.1 (xs.filter (fun x=> !p x)).length y.2.1,y.2.2])∧J=[]++vc 146 (.slice y.1 (xs.filter (fun x=> !p x)).length y.2.1) (xs.filter (fun x=> !p x))::I):=by
 refine Ce3 Tryz.func257 rfl rfl ?_
 refine Ah (Ga rfl (Ga rfl (Af (Ah (Gm rfl (G.e (Al call216 rfl rfl (CloneL (xs:=xs) Bf om)) ?_))))))
 rintro _ _ ⟨_,_,⟨ad1,cp2,rfl,rfl⟩,rfl,rfl⟩
 refine Ga rfl (Af (Ah (Ga rfl (Af (Ap (Ah (Ga rfl (Af (A3 (Bv (σ:=Nat×(Option Addr)×Nat×(List Ev)) (fun s=>([(0,.slice ad1 (keepL (fun x=> !p x) xs s.1).length cp2),(1,I64 (nw)),(2,.func (.func g) #[] cp_.toArray),(8,.slice s.2.1 s.2.2.2.length s.2.2.1),(9,I64 (((keptN (fun x=> !p x) xs s.1:Nat):Int)))]:Env)) (fun s=>vc 108 (.slice s.2.1 s.2.2.2.length s.2.2.1) (s.2.2.2)::vc 146 (.slice ad1 (keepL (fun x=> !p x) xs s.1).length cp2) ((keepL (fun x=> !p x) xs s.1))::vc 146 (.slice a0 xs.length c0) (xs)::I) (fun s=>(s.1≤xs.length)∧(s.2.2.2.length≤s.1)) (fun s=>xs.length - s.1) (0,none,0,[]) (show ((0:Nat)≤xs.length)∧(([]:List Ev).length≤(0:Nat)) from ⟨om,(by simp)⟩) (Ab (C1 rfl (by first|rfl|(rw [keepL_zero])|(rw [hky.1])|(rw [hkl]))) (Ab rfl (Ab rfl (Ab (C1 rfl (by first|rfl|(rw [keepL_zero])|(rw [hky.1])|(rw [hkl]))) (Ab (Dy rfl (by first|omega|(rw [keptN_zero];rfl)|(dsimp only;have e1:=hky.2;omega)|(dsimp only;have e1:=hkn;omega))) Bj))))) (show Fit κ _ (vc 108 (.slice (none) ([]).length (0)) (([]))::vc 146 (.slice ad1 (keepL (fun x=> !p x) xs (0)).length cp2) ((keepL (fun x=> !p x) xs (0)))::vc 146 (.slice a0 xs.length c0) (xs)::I) from (by rw [keepL_zero];exact Bx _ _)) ?_))))))))))
 rintro ⟨j,a2,c2,chg⟩ hp
 dsimp only at hp ⊢
 obtain ⟨hj,hcg⟩:=hp
 have hkj:=keptN_le (P:=(fun x=> !p x)) (xs:=xs) (j:=j)
 have hkl0:=keepL_len (P:=(fun x=> !p x)) (xs:=xs) (j:=j)
 refine W.pull (vc.cap (xs:=(keepL (fun x=> !p x) xs j)) mm) fun hcap=>?_
 refine Ap (Ah (Gm rfl (Gm rfl (Gr (Bq Aq rfl) (Gr (Bb rfl rfl) (Af (A9 rfl (fun c15=>?_) (fun c15=>?_))))))))
 ·refine A1 (Ai (A3 (Ap (Ah (Gm rfl (Gm rfl (Gm rfl (Gr (A0 (α:=Lk) (xs:=(keepL (fun x=> !p x) xs j)) Aq ty146 rfl rfl Bf om om) (Gr (Bu (α:=Lk) (xs:=(keepL (fun x=> !p x) xs j)) ty146 rfl Bf om om) (G.e (Cl hcb.1 (first:=[]) (caps:=cp_) rfl rfl rfl (hcb.2 (at_ (keepL (fun x=> !p x) xs j) ((keptN (fun x=> !p x) xs j:Nat):Int)) _ Ax)) ?_))))))))))
  rintro _ _ ⟨_,_,⟨rfl,rfl⟩,rfl,rfl⟩
  refine Gr (Cn rfl) (Af (Ar (S6 22 0 1 2 8 9 rfl rfl rfl rfl rfl rfl) (W.cond rfl (fun c22=>?_) (fun c22=>?_))))
  ·refine Ah (Gm rfl (Gr (Rad rfl rfl) (Ga rfl (Af (Bs (Am (A7 ?_)))))))
   have hky:=keep_yes (P:=(fun x=> !p x)) (xs:=xs) (j:=j) om (by rw [←keepL_at (P:=(fun x=> !p x)) (xs:=xs) (j:=j) om];exact c22)
   exact B7 ((j+1),(a2),(c2),(chg)) (by dsimp only;exact ⟨om,om⟩) (hL:=(Ab (C1 rfl (by first|rfl|(rw [keepL_zero])|(rw [hky.1])|(rw [hkl]))) (Ab rfl (Ab rfl (Ab (C1 rfl (by first|rfl|(rw [keepL_zero])|(rw [hky.1])|(rw [hkl]))) (Ab (Dy rfl (by first|omega|(rw [keptN_zero];rfl)|(dsimp only;have e1:=hky.2;omega)|(dsimp only;have e1:=hkn;omega))) Bj)))))) (hI:=by (try dsimp only);exact (by rw [hky.1];exact Ay))
  ·refine A1 (Ai (Ah (Gm rfl ?_)))
   have hpj:(fun x=> !p x) (at_ xs (j:Int))=false:=by rw [←keepL_at (P:=(fun x=> !p x)) (xs:=xs) (j:=j) om];exact c22
   have hkn:=keep_no (P:=(fun x=> !p x)) (xs:=xs) (j:=j) om hpj
   refine Gm rfl (Gm rfl (Gr (A0 (α:=Lk) (xs:=(keepL (fun x=> !p x) xs j)) Aq ty146 rfl rfl Bf om om) (Gr (Bu (α:=Lk) (xs:=(keepL (fun x=> !p x) xs j)) ty146 rfl Bf om om) (Gm rfl (G.e (Al call254 rfl rfl (Gone_ok (at_ (keepL (fun x=> !p x) xs j) ((keptN (fun x=> !p x) xs j:Nat):Int)) nw)) ?_)))))
   rintro _ _ ⟨_,_,⟨rfl,rfl⟩,rfl,rfl⟩
   refine Ge1 (B8 (α:=Ev) (cs:=[I64 (2),I64 (nw),I64 ((at_ (keepL (fun x=> !p x) xs j) ((keptN (fun x=> !p x) xs j:Nat):Int)).u),I64 ((at_ (keepL (fun x=> !p x) xs j) ((keptN (fun x=> !p x) xs j:Nat):Int)).v),I64 (0),I64 (0),I64 (0)]) (xs:=[⟨2,nw,(at_ (keepL (fun x=> !p x) xs j) ((keptN (fun x=> !p x) xs j:Nat):Int)).u,(at_ (keepL (fun x=> !p x) xs j) ((keptN (fun x=> !p x) xs j:Nat):Int)).v,0,0,0⟩]) A5 ty108 rfl rfl dc dc rfl kr rfl rfl) fun ad3=>?_
   refine Ge2 (Ch (α:=Ev) (e:=108) (xs:=chg) (ys:=([⟨2,nw,(at_ (keepL (fun x=> !p x) xs j) ((keptN (fun x=> !p x) xs j:Nat):Int)).u,(at_ (keepL (fun x=> !p x) xs j) ((keptN (fun x=> !p x) xs j:Nat):Int)).v,0,0,0⟩]:List Ev)) A5 ty108 rfl rfl rfl mm Bf lcn dc rfl (fun _ _=>am)) fun ad4 cp5=>?_
   refine Ga rfl (Af (Ar (S5 8 0 1 2 9 rfl rfl rfl rfl rfl) (Ap (Bd mixed (Bl (I) 8 (Dr 0 rfl (Ad rfl) (Dr 1 rfl (Ad rfl) (Dr 2 rfl (D1 (l:=keptN (fun x=> !p x) xs j) Aq ty146 rfl rfl (by simp only [Int.natCast_add]<;>omega) om om) (Dr 3 rfl (Ad rfl) (Dr 4 rfl (Ad rfl) (Dr 5 rfl (Rad rfl rfl) (Dr 6 rfl (D1 (l:=(keptN (fun x=> !p x) xs j+1)) Aq ty146 rfl rfl (by simp only [Int.natCast_add]<;>omega) om om) (Ds1 7 (Se0 rfl (Eff.copyT (α:=Lk) (k:=keptN (fun x=> !p x) xs j) (q:=(xs.length - j - 1)) (R:=(keepL (fun x=> !p x) xs (j+1))++List.drop (keptN (fun x=> !p x) xs j+(xs.length - j - 1)) (keepL (fun x=> !p x) xs j)) (n:=(keepL (fun x=> !p x) xs j).length) Aq ty146 rfl lat rfl (Ee (Sl.vec (xs:=(keepL (fun x=> !p x) xs j)) mm) om om) lat lat rfl (keep_copy om hpj rfl) lat am) ?_))))))))))))))
   refine Dz (Ai (A2 (Gm rfl (Gm rfl (Gr (Bq Aq rfl) (Gr (Rsu rfl rfl) (Gr (Runs.hiraw (h:=((keepL (fun x=> !p x) xs j).length - 1)) Aq ty146 rfl rfl om om) (Ga rfl ?_))))))))
   have hkl:(keepL (fun x=> !p x) xs j).length - 1=(keepL (fun x=> !p x) xs (j+1)).length:=by have h3:=keepL_len (P:=(fun x=> !p x)) (xs:=xs) (j:=j+1);omega
   refine G.fit (J:=vc 108 (.slice ad3 1 1) (([⟨2,nw,(at_ (keepL (fun x=> !p x) xs j) ((keptN (fun x=> !p x) xs j:Nat):Int)).u,(at_ (keepL (fun x=> !p x) xs j) ((keptN (fun x=> !p x) xs j:Nat):Int)).v,0,0,0⟩]:List Ev))::vc 108 (.slice ad4 (chg++([⟨2,nw,(at_ (keepL (fun x=> !p x) xs j) ((keptN (fun x=> !p x) xs j:Nat):Int)).u,(at_ (keepL (fun x=> !p x) xs j) ((keptN (fun x=> !p x) xs j:Nat):Int)).v,0,0,0⟩]:List Ev)).length cp5) (chg++([⟨2,nw,(at_ (keepL (fun x=> !p x) xs j) ((keptN (fun x=> !p x) xs j:Nat):Int)).u,(at_ (keepL (fun x=> !p x) xs j) ((keptN (fun x=> !p x) xs j:Nat):Int)).v,0,0,0⟩]:List Ev))::vc 146 (.slice ad1 (keepL (fun x=> !p x) xs (j+1)).length cp2) ((keepL (fun x=> !p x) xs (j+1)))::vc 146 (.slice a0 xs.length c0) (xs)::I) (Fit.upd am (fun w h=>by have h4:=cutshort (h:=((keepL (fun x=> !p x) xs j).length - 1)) (by rw [List.length_append];omega) w h;rw [keep_take hkl] at h4;exact h4)) ?_
   exact Bh (Aj (B7 ((j+1),(ad4),(cp5),(chg++([⟨2,nw,(at_ (keepL (fun x=> !p x) xs j) ((keptN (fun x=> !p x) xs j:Nat):Int)).u,(at_ (keepL (fun x=> !p x) xs j) ((keptN (fun x=> !p x) xs j:Nat):Int)).v,0,0,0⟩]:List Ev))) (by dsimp only;exact ⟨om,lap⟩) (hL:=(Ab (C1 rfl (by first|rfl|(rw [keepL_zero])|(rw [hky.1])|(rw [hkl]))) (Ab rfl (Ab rfl (Ab (C1 rfl (by first|rfl|(rw [keepL_zero])|(rw [hky.1])|(rw [hkl]))) (Ab (Dy rfl (by first|omega|(rw [keptN_zero];rfl)|(dsimp only;have e1:=hky.2;omega)|(dsimp only;have e1:=hkn;omega))) Bj))))))))
 ·refine Bs (Am (Am (A7 (Ai (Ah (Gm rfl (Gm rfl (Ga rfl (Ga rfl (Af (Az ?_)))))))))))
  have hE:(keepL (fun x=> !p x) xs j)=(xs.filter (fun x=> !p x)):=keepL_end om
  exact Ct rfl rfl rfl ([]++vc 146 (.slice ad1 (xs.filter (fun x=> !p x)).length cp2) (xs.filter (fun x=> !p x))::I) (by rw [←hE];exact Ay) ⟨⟨ad1,cp2,.slice a2 chg.length c2⟩,by rw [←hE],rfl⟩
variable {κ:Ctx}{I:List Item}
theorem SetP_at{F:Item→List Item}{n:Nat}{e:Ev}{a0:Option Addr}{c0:Nat}{xs:List Lk}(hat:AtF I (vc 146 (.slice a0 n c0) xs) F)(hn:n=xs.length)(ha:xs.Pairwise Lk.lt)(hsz:xs.length≤1000000) :
  CallS Tryz.prog κ 256 [.slice a0 n c0,.agg #[I64 (e.kd),I64 (e.tm),I64 (e.u),I64 (e.v),I64 (e.w),I64 (e.lb),I64 (e.sg)]] I fun r J=>∃y:Option Addr×Nat×Value,(r = .tuple #[.slice y.1 (setL (lkOf e) xs).length y.2.1,y.2.2])∧J=[]++F (vc 146 (.slice y.1 (setL (lkOf e) xs).length y.2.1) (setL (lkOf e) xs)):=by
 subst hn
 exact Dx (Post:=fun r (y:Option Addr×Nat×Value)=>r = .tuple #[.slice y.1 (setL (lkOf e) xs).length y.2.1,y.2.2]) (Z:=fun _=>[]) (X:=fun y:Option Addr×Nat×Value=>vc 146 (.slice y.1 (setL (lkOf e) xs).length y.2.1) (setL (lkOf e) xs)) hat fun J hJ _=>SetP_base ha hsz
theorem CutP_at{F:Item→List Item}{n:Nat}{nw:Int}{a0:Option Addr}{c0:Nat}{xs:List Lk}{g:FuncId}{cp_:List Value}{p:Lk→Bool}(hat:AtF I (vc 146 (.slice a0 n c0) xs) F)(hn:n=xs.length)(hcb:Says Tryz.prog κ I g cp_ p)(hsz:xs.length≤1000000) :
  CallS Tryz.prog κ 257 [.slice a0 n c0,I64 (nw),.func (.func g) #[] cp_.toArray] I fun r J=>∃y:Option Addr×Nat×Value,(r = .tuple #[.slice y.1 (xs.filter (fun x=> !p x)).length y.2.1,y.2.2])∧J=[]++F (vc 146 (.slice y.1 (xs.filter (fun x=> !p x)).length y.2.1) (xs.filter (fun x=> !p x))):=by
 subst hn
 exact Dx (Post:=fun r (y:Option Addr×Nat×Value)=>r = .tuple #[.slice y.1 (xs.filter (fun x=> !p x)).length y.2.1,y.2.2]) (Z:=fun _=>[]) (X:=fun y:Option Addr×Nat×Value=>vc 146 (.slice y.1 (xs.filter (fun x=> !p x)).length y.2.1) (xs.filter (fun x=> !p x))) hat fun J hJ _=>CutP_base (hcb.fit hJ) hsz
theorem hitE_two{e:Ev}{l:Lk}(h:e.kd=2):hitE e l=decide (l.u=(if e.v<e.u then e.v else e.u)∧l.v=(if e.u<e.v then e.v else e.u)):=by unfold hitE;rw [if_pos h];rfl
theorem hitE_oth{e:Ev}{l:Lk}(h:¬e.kd=2):hitE e l=decide (l.u=e.u∨l.v=e.u):=by unfold hitE;rw [if_neg h]
theorem Step1_ok{b:Nat}{e:Ev}(hk:e.kd=2)(hb:BlkRd κ I b [I64 (e.kd),I64 (e.tm),I64 (e.u),I64 (e.v),I64 (e.w),I64 (e.lb),I64 (e.sg)] 108)(x:Lk) :
    CallS Tryz.prog κ 258 [.agg #[I64 (x.u),I64 (x.v),I64 (x.w),I64 (x.lb),I64 (x.sg),I64 (x.tm)],.pointer (some ⟨b,0,none⟩)] I (fun r J=>r = .bool (hitE e x)∧I=J):=by
 refine Ce2 Tryz.func258 rfl rfl ?_
 refine Ah (Ge1 (Bc (cs:=[_,_,_,_,_,_]) rfl rfl rfl) fun b1=>Ga rfl (Af (Ah (Gf fld146_0 rfl (Gl ty3 ?_)))))
 refine Gf fld108_2 rfl (Gr (Cp ty3 rfl (Cm hb Ax) rfl) (Gf fld108_3 rfl (Gr (Cp ty3 rfl (Cm hb Ax) rfl) (Gr (Runs.min rfl rfl) (Gr (Bm rfl rfl) (Gm rfl (Bk (d:=12) rfl (fun g12=>?_) (fun g12=>?_))))))))
 ·refine Gro (Ac fld146_1 rfl) (Gro (Av ty3) ?_)
  exact Gro (Ac fld108_2 rfl) (Gro (Cp ty3 rfl (Cm hb Ax) rfl) (Gro (Ac fld108_3 rfl) (Gro (Cp ty3 rfl (Cm hb Ax) rfl) (Gro (Ei rfl rfl) (Gro (Bm rfl rfl) (Gr (As rfl rfl) (Ga rfl (Af (Ar (S1 3 rfl) (Az (A4 rfl rfl (I) Ax ⟨by rw [hitE_two hk];exact (by first|exact congrArg Value.bool (decide_eq_decide.2 (by skip;omega))|exact congrArg Value.bool (decide_eq_true (by skip;omega)).symm|exact congrArg Value.bool (decide_eq_false (by skip;omega)).symm),rfl⟩)))))))))))
 ·exact Gpo (Gpo (Gpo (Gpo (Gpo (Gpo (Gpo (Gpo (Gr (Au rfl rfl) (Ga rfl (Af (Ar (S1 3 rfl) (Az (A4 rfl rfl (I) Ax ⟨by rw [hitE_two hk];exact (by first|exact congrArg Value.bool (decide_eq_decide.2 (by skip;omega))|exact congrArg Value.bool (decide_eq_true (by skip;omega)).symm|exact congrArg Value.bool (decide_eq_false (by skip;omega)).symm),rfl⟩)))))))))))))
theorem Step1_says{b:Nat}{e:Ev}(hk:e.kd=2)(hb:BlkRd κ I b [I64 (e.kd),I64 (e.tm),I64 (e.u),I64 (e.v),I64 (e.w),I64 (e.lb),I64 (e.sg)] 108):Says Tryz.prog κ I 258 [.pointer (some ⟨b,0,none⟩)] (hitE e):=⟨call258,fun x J hf=>Step1_ok hk (hb.fit hf) x⟩
theorem Step2_ok{b:Nat}{e:Ev}(hk:¬e.kd=2)(hb:BlkRd κ I b [I64 (e.kd),I64 (e.tm),I64 (e.u),I64 (e.v),I64 (e.w),I64 (e.lb),I64 (e.sg)] 108)(x:Lk) :
    CallS Tryz.prog κ 259 [.agg #[I64 (x.u),I64 (x.v),I64 (x.w),I64 (x.lb),I64 (x.sg),I64 (x.tm)],.pointer (some ⟨b,0,none⟩)] I (fun r J=>r = .bool (hitE e x)∧I=J):=by
 refine Ce2 Tryz.func259 rfl rfl ?_
 refine Ah (Ge1 (Bc (cs:=[_,_,_,_,_,_]) rfl rfl rfl) fun b1=>Ga rfl (Af (Ah (Gf fld146_0 rfl (Gl ty3 ?_)))))
 refine Gf fld108_2 rfl (Gr (Cp ty3 rfl (Cm hb Ax) rfl) (Gr (Bm rfl rfl) (Gm rfl (Bk (d:=9) rfl (fun g9=>?_) (fun g9=>?_)))))
 ·exact Gpo (Gpo (Gpo (Gpo (Gpo (Gr (As rfl rfl) (Ga rfl (Af (Ar (S1 3 rfl) (Az (A4 rfl rfl (I) Ax ⟨by rw [hitE_oth hk];exact (by first|exact congrArg Value.bool (decide_eq_decide.2 (by skip;omega))|exact congrArg Value.bool (decide_eq_true (by skip;omega)).symm|exact congrArg Value.bool (decide_eq_false (by skip;omega)).symm),rfl⟩))))))))))
 ·refine Gro (Ac fld146_1 rfl) (Gro (Av ty3) ?_)
  exact Gro (Ac fld108_2 rfl) (Gro (Cp ty3 rfl (Cm hb Ax) rfl) (Gro (Bm rfl rfl) (Gr (Au rfl rfl) (Ga rfl (Af (Ar (S1 3 rfl) (Az (A4 rfl rfl (I) Ax ⟨by rw [hitE_oth hk];exact (by first|exact congrArg Value.bool (decide_eq_decide.2 (by skip;omega))|exact congrArg Value.bool (decide_eq_true (by skip;omega)).symm|exact congrArg Value.bool (decide_eq_false (by skip;omega)).symm),rfl⟩))))))))
theorem Step2_says{b:Nat}{e:Ev}(hk:¬e.kd=2)(hb:BlkRd κ I b [I64 (e.kd),I64 (e.tm),I64 (e.u),I64 (e.v),I64 (e.w),I64 (e.lb),I64 (e.sg)] 108):Says Tryz.prog κ I 259 [.pointer (some ⟨b,0,none⟩)] (hitE e):=⟨call259,fun x J hf=>Step2_ok hk (hb.fit hf) x⟩
theorem StepP_base{nd:Int}{e:Ev}{a0:Option Addr}{c0:Nat}{xs:List Lk}(ha:xs.Pairwise Lk.lt)(hsz:xs.length≤1000000) :
    CallS Tryz.prog κ 215 [.agg #[I64 (nd),.slice a0 xs.length c0],.agg #[I64 (e.kd),I64 (e.tm),I64 (e.u),I64 (e.v),I64 (e.w),I64 (e.lb),I64 (e.sg)]] (vc 146 (.slice a0 xs.length c0) (xs)::I) (fun r J=>∃y:Option Addr×Nat×Value,(r = .tuple #[.agg #[I64 nd,.slice y.1 (stepL xs e).length y.2.1],y.2.2])∧J=[]++vc 146 (.slice y.1 (stepL xs e).length y.2.1) (stepL xs e)::I):=by
 refine Ce2 Tryz.func215 rfl rfl ?_
 refine Ah (Ge1 (Bc (cs:=[_,_]) rfl rfl rfl) fun b1=>Ge1 (Bc (cs:=[_,_,_,_,_,_,_]) rfl rfl rfl) fun b2=>Ge1 (A8 ty111 rfl) fun b3=>Ga rfl (Af (Ah (Ga rfl (Af (Ap (Ah (Gf fld108_0 rfl (Gl ty3 ?_)))))))))
 refine Af (A3 (Ah (Gr (Bm rfl rfl) (Ga rfl (Af (A9 rfl (fun c19=>?_) (fun c19=>?_)))))))
 ·refine A2 (Gf fld111_1 rfl (Gl ty109 ?_))
  refine Gl7 ty108 ?_
  refine G.e (Al call256 rfl rfl (SetP_at (by repeat (first|exact AtF.head _ _|apply AtF.tail)) rfl ha om)) ?_
  rintro _ _ ⟨_,_,⟨⟨ad4,cp5,wv6⟩,rfl,rfl⟩,rfl,rfl⟩
  show G Tryz.prog κ _ _ _ _ ([(25,.tuple #[.slice ad4 (setL (lkOf e) xs).length cp5,wv6]),(24,.agg #[I64 (e.kd),I64 (e.tm),I64 (e.u),I64 (e.v),I64 (e.w),I64 (e.lb),I64 (e.sg)]),(23,.slice a0 xs.length c0),(22,.pointer (some ⟨b1,1,none⟩)),(19,.bool (decide (e.kd=1))),(20,.bool (decide (e.kd=1))),(8,I64 (e.kd)),(7,.pointer (some ⟨b2,0,none⟩)),(6,.slice none 0 0),(5,.slice none 0 0),(4,.pointer (some ⟨b3,0,none⟩)),(3,.pointer (some ⟨b2,0,none⟩)),(2,.pointer (some ⟨b1,0,none⟩)),(0,.agg #[I64 (nd),.slice a0 xs.length c0]),(1,.agg #[I64 (e.kd),I64 (e.tm),I64 (e.u),I64 (e.v),I64 (e.w),I64 (e.lb),I64 (e.sg)])]:Env) (blk b3 [I64 (0),.slice none 0 0] 111::blk b2 [I64 (e.kd),I64 (e.tm),I64 (e.u),I64 (e.v),I64 (e.w),I64 (e.lb),I64 (e.sg)] 108::blk b1 [I64 (nd),.slice a0 xs.length c0] 111::vc 146 (.slice ad4 (setL (lkOf e) xs).length cp5) (setL (lkOf e) xs)::I)
  refine Gm rfl (Gr (Aw rfl rfl) (Gr (Aw rfl rfl) (Gf fld111_1 rfl (Ge0 (Es2_1 ty109) ?_))))
  refine Ga rfl (Bh (Aj (Ai (Ar (S3 6 4 2 rfl rfl rfl) (Ah (Gl2 ty111 ?_))))))
  refine Gm rfl (Ge0 (Co ty111) ?_)
  refine Ga rfl (Af (Az ?_))
  have hE:setL (lkOf e) xs=(stepL xs e):=by unfold stepL;rw [if_pos c19]
  exact Dj rfl ty111 rfl rfl mm rfl ([]++vc 146 (.slice ad4 (stepL xs e).length cp5) (stepL xs e)::I) (by rw [←hE];exact Ay) ⟨⟨ad4,cp5,wv6⟩,by rw [←hE]<;>rfl,rfl⟩
 ·refine Ah (Gr (Bm rfl rfl) (Ga rfl (Af (A9 rfl (fun c29=>?_) (fun c29=>?_)))))
  ·refine A2 (Gf fld111_1 rfl (Gl ty109 ?_))
   refine Gf fld108_1 rfl (Gl ty3 ?_)
   refine Gr (D2 rfl rfl) (G.e (Al call257 rfl rfl (CutP_at (by repeat (first|exact AtF.head _ _|apply AtF.tail)) rfl (Step1_says c29 (Ck mm)) om)) ?_)
   rintro _ _ ⟨_,_,⟨⟨ad7,cp8,wv9⟩,rfl,rfl⟩,rfl,rfl⟩
   show G Tryz.prog κ _ _ _ _ ([(37,.tuple #[.slice ad7 (List.filter (fun x=> !hitE e x) xs).length cp8,wv9]),(36,.func (.func 258) #[] #[.pointer (some ⟨b2,0,none⟩)]),(35,I64 (e.tm)),(34,.pointer (some ⟨b2,1,none⟩)),(33,.slice a0 xs.length c0),(32,.pointer (some ⟨b1,1,none⟩)),(29,.bool (decide (e.kd=2))),(30,.bool (decide (e.kd=2))),(19,.bool (decide (e.kd=1))),(20,.bool (decide (e.kd=1))),(8,I64 (e.kd)),(7,.pointer (some ⟨b2,0,none⟩)),(6,.slice none 0 0),(5,.slice none 0 0),(4,.pointer (some ⟨b3,0,none⟩)),(3,.pointer (some ⟨b2,0,none⟩)),(2,.pointer (some ⟨b1,0,none⟩)),(0,.agg #[I64 (nd),.slice a0 xs.length c0]),(1,.agg #[I64 (e.kd),I64 (e.tm),I64 (e.u),I64 (e.v),I64 (e.w),I64 (e.lb),I64 (e.sg)])]:Env) (blk b3 [I64 (0),.slice none 0 0] 111::blk b2 [I64 (e.kd),I64 (e.tm),I64 (e.u),I64 (e.v),I64 (e.w),I64 (e.lb),I64 (e.sg)] 108::blk b1 [I64 (nd),.slice a0 xs.length c0] 111::vc 146 (.slice ad7 (List.filter (fun x=> !hitE e x) xs).length cp8) (List.filter (fun x=> !hitE e x) xs)::I)
   refine Gm rfl (Gr (Aw rfl rfl) (Gr (Aw rfl rfl) (Gf fld111_1 rfl (Ge0 (Es2_1 ty109) ?_))))
   refine Ga rfl (Bh (Aj (Ai (Ar (S3 6 4 2 rfl rfl rfl) (Ah (Gl2 ty111 ?_))))))
   refine Gm rfl (Ge0 (Co ty111) ?_)
   refine Ga rfl (Af (Az ?_))
   have hE:List.filter (fun x=> !hitE e x) xs=(stepL xs e):=by unfold stepL;rw [if_neg c19]
   exact Dj rfl ty111 rfl rfl mm rfl ([]++vc 146 (.slice ad7 (stepL xs e).length cp8) (stepL xs e)::I) (by rw [←hE];exact Ay) ⟨⟨ad7,cp8,wv9⟩,by rw [←hE]<;>rfl,rfl⟩
  ·refine A2 (Gf fld111_1 rfl (Gl ty109 ?_))
   refine Gf fld108_1 rfl (Gl ty3 ?_)
   refine Gr (D2 rfl rfl) (G.e (Al call257 rfl rfl (CutP_at (by repeat (first|exact AtF.head _ _|apply AtF.tail)) rfl (Step2_says c29 (Ck mm)) om)) ?_)
   rintro _ _ ⟨_,_,⟨⟨ad10,cp11,wv12⟩,rfl,rfl⟩,rfl,rfl⟩
   show G Tryz.prog κ _ _ _ _ ([(15,.tuple #[.slice ad10 (List.filter (fun x=> !hitE e x) xs).length cp11,wv12]),(14,.func (.func 259) #[] #[.pointer (some ⟨b2,0,none⟩)]),(13,I64 (e.tm)),(12,.pointer (some ⟨b2,1,none⟩)),(11,.slice a0 xs.length c0),(10,.pointer (some ⟨b1,1,none⟩)),(29,.bool (decide (e.kd=2))),(30,.bool (decide (e.kd=2))),(19,.bool (decide (e.kd=1))),(20,.bool (decide (e.kd=1))),(8,I64 (e.kd)),(7,.pointer (some ⟨b2,0,none⟩)),(6,.slice none 0 0),(5,.slice none 0 0),(4,.pointer (some ⟨b3,0,none⟩)),(3,.pointer (some ⟨b2,0,none⟩)),(2,.pointer (some ⟨b1,0,none⟩)),(0,.agg #[I64 (nd),.slice a0 xs.length c0]),(1,.agg #[I64 (e.kd),I64 (e.tm),I64 (e.u),I64 (e.v),I64 (e.w),I64 (e.lb),I64 (e.sg)])]:Env) (blk b3 [I64 (0),.slice none 0 0] 111::blk b2 [I64 (e.kd),I64 (e.tm),I64 (e.u),I64 (e.v),I64 (e.w),I64 (e.lb),I64 (e.sg)] 108::blk b1 [I64 (nd),.slice a0 xs.length c0] 111::vc 146 (.slice ad10 (List.filter (fun x=> !hitE e x) xs).length cp11) (List.filter (fun x=> !hitE e x) xs)::I)
   refine Gm rfl (Gr (Aw rfl rfl) (Gr (Aw rfl rfl) (Gf fld111_1 rfl (Ge0 (Es2_1 ty109) ?_))))
   refine Ga rfl (Bh (Aj (Ai (Ar (S3 6 4 2 rfl rfl rfl) (Ah (Gl2 ty111 ?_))))))
   refine Gm rfl (Ge0 (Co ty111) ?_)
   refine Ga rfl (Af (Az ?_))
   have hE:List.filter (fun x=> !hitE e x) xs=(stepL xs e):=by unfold stepL;rw [if_neg c19]
   exact Dj rfl ty111 rfl rfl mm rfl ([]++vc 146 (.slice ad10 (stepL xs e).length cp11) (stepL xs e)::I) (by rw [←hE];exact Ay) ⟨⟨ad10,cp11,wv12⟩,by rw [←hE]<;>rfl,rfl⟩
theorem StepP_at{F:Item→List Item}{n:Nat}{nd:Int}{e:Ev}{a0:Option Addr}{c0:Nat}{xs:List Lk}(hat:AtF I (vc 146 (.slice a0 n c0) xs) F)(hn:n=xs.length)(ha:xs.Pairwise Lk.lt)(hsz:xs.length≤1000000) :
  CallS Tryz.prog κ 215 [.agg #[I64 (nd),.slice a0 n c0],.agg #[I64 (e.kd),I64 (e.tm),I64 (e.u),I64 (e.v),I64 (e.w),I64 (e.lb),I64 (e.sg)]] I fun r J=>∃y:Option Addr×Nat×Value,(r = .tuple #[.agg #[I64 nd,.slice y.1 (stepL xs e).length y.2.1],y.2.2])∧J=[]++F (vc 146 (.slice y.1 (stepL xs e).length y.2.1) (stepL xs e)):=by
 subst hn
 exact Dx (Post:=fun r (y:Option Addr×Nat×Value)=>r = .tuple #[.agg #[I64 nd,.slice y.1 (stepL xs e).length y.2.1],y.2.2]) (Z:=fun _=>[]) (X:=fun y:Option Addr×Nat×Value=>vc 146 (.slice y.1 (stepL xs e).length y.2.1) (stepL xs e)) hat fun J hJ _=>StepP_base ha hsz
set_option maxHeartbeats 1000000 in
theorem PutP_base{κ:Ctx}{I:List Item}{b:Nat}{nd:Int}{a0 o0:Option Addr}{c0 d0:Nat}{xs:List Lk}{out:List Ev}{va:Value}{es:List Ev}(hl:Sl κ I va es)(hval:checkS nd xs=0)(hfit:∀j:Nat,j<es.length→FitOk nd (at_ es (j:Int)))(hsz:xs.length+es.length≤1000000)(hso:out.length+es.length≤1000000) :
    CallS Tryz.prog κ 212 [.pointer (some ⟨b,0,none⟩),va] (blk b [I64 (nd),.slice a0 xs.length c0,.slice o0 out.length d0] 241::vc 146 (.slice a0 xs.length c0) (xs)::vc 108 (.slice o0 out.length d0) (out)::I) (fun r J=>∃y:Option Addr×Nat×Option Addr×Nat,r = .tuple #[]∧J=blk b [I64 (nd),.slice y.1 (List.foldl stepL xs es).length y.2.1,.slice y.2.2.1 (out++es).length y.2.2.2] 241::vc 146 (.slice y.1 (List.foldl stepL xs es).length y.2.1) (List.foldl stepL xs es)::vc 108 (.slice y.2.2.1 (out++es).length y.2.2.2) (out++es)::I):=by
 refine Ce2 Tryz.func212 rfl rfl ?_
 refine Ah (Gm rfl (Gr (Bw (α:=Ev) (xs:=es) A5 rfl (Bi hl)) (Gm rfl (Af (A3 (Bv (σ:=Nat×(Option Addr)×Nat×(Option Addr)×Nat) (fun s=>([(0,.pointer (some ⟨b,0,none⟩)),(6,va),(7,I64 (((es.length:Nat):Int))),(8,I64 (((s.1:Nat):Int)))]:Env)) (fun s=>blk b [I64 (nd),.slice s.2.1 (List.foldl stepL xs (List.take s.1 es)).length s.2.2.1,.slice s.2.2.2.1 (out++List.take s.1 es).length s.2.2.2.2] 241::vc 146 (.slice s.2.1 (List.foldl stepL xs (List.take s.1 es)).length s.2.2.1) (List.foldl stepL xs (List.take s.1 es))::vc 108 (.slice s.2.2.2.1 (out++List.take s.1 es).length s.2.2.2.2) (out++List.take s.1 es)::I) (fun s=>(s.1≤es.length)∧(checkS nd (List.foldl stepL xs (List.take s.1 es))=0)) (fun s=>es.length - s.1) (0,a0,c0,o0,d0) (show ((0:Nat)≤es.length)∧(checkS nd (List.foldl stepL xs (List.take (0:Nat) es))=0) from ⟨om,hval⟩) (Ab rfl (Ab rfl (Ab rfl (Ab Cc Bj)))) (show Fit κ _ (blk b [I64 (nd),.slice (a0) (List.foldl stepL xs (List.take (0) es)).length (c0),.slice (o0) (out++List.take (0) es).length (d0)] 241::vc 146 (.slice (a0) (List.foldl stepL xs (List.take (0) es)).length (c0)) (List.foldl stepL xs (List.take (0) es))::vc 108 (.slice (o0) (out++List.take (0) es).length (d0)) (out++List.take (0) es)::I) from (by rw [show out++List.take 0 es=out from List.append_nil _];exact Fit.refl _)) ?_))))))
 rintro ⟨k,a1,c1,o1,d1⟩ hp
 dsimp only at hp ⊢
 obtain ⟨hk,hv⟩:=hp
 refine Ah (Gr (Bb rfl rfl) (Af (Ap (A9 rfl (fun c9=>?_) (fun c9=>?_)))))
 ·refine A1 (Ai (Ap (A3 (Ah (Gr (A0 (α:=Ev) (xs:=es) A5 ty108 rfl rfl (Bi hl) om om) (Gr (Bu (α:=Ev) (xs:=es) ty108 rfl (Bi hl) om om) (Ge1 (A8 ty108 rfl) fun b1=>Ge0 (Es7_7 ty108) ?_)))))))
  refine Af (Ap (Bd mixed (Bl (blk b1 [I64 ((at_ es (k:Int)).kd),I64 ((at_ es (k:Int)).tm),I64 ((at_ es (k:Int)).u),I64 ((at_ es (k:Int)).v),I64 ((at_ es (k:Int)).w),I64 ((at_ es (k:Int)).lb),I64 ((at_ es (k:Int)).sg)] 108::I) 13 (Dr 0 rfl (Ad rfl) (Dr 1 rfl (Ad rfl) (Dr 2 rfl (Ba rfl) (Dr 3 rfl (Ac fld241_0 rfl) (Dr 5 rfl (Bo (vs:=[_,_,_,_,_,_,_]) ty108) ?_))))))))
  refine Ds1 4 (Sr rfl (Bo (vs:=[_,_]) ty111) Ay ?_)
  refine Ds1 6 (Se rfl (Al call215 rfl rfl (StepP_at (by repeat (first|exact AtF.head _ _|apply AtF.tail)) rfl (checkS_ok hv).2.2 (by have h:=steps_len (List.take k es) xs;rw [List.length_take] at h;omega))) ?_)
  rintro _ _ ⟨_,_,⟨⟨ad2,cp3,wv4⟩,rfl,rfl⟩,rfl,rfl⟩
  refine ⟨Ay,?_⟩
  show D Tryz.prog κ _ _ _ _ _ _ _ ([(19,.tuple #[.agg #[I64 (nd),.slice ad2 (stepL (List.foldl stepL xs (List.take k es)) (at_ es (k:Int))).length cp3],wv4]),(17,.agg #[I64 (nd),.slice a1 (List.foldl stepL xs (List.take k es)).length c1]),(18,.agg #[I64 ((at_ es (k:Int)).kd),I64 ((at_ es (k:Int)).tm),I64 ((at_ es (k:Int)).u),I64 ((at_ es (k:Int)).v),I64 ((at_ es (k:Int)).w),I64 ((at_ es (k:Int)).lb),I64 ((at_ es (k:Int)).sg)]),(16,.pointer (some ⟨b,0,none⟩)),(15,.pointer (some ⟨b,0,none⟩)),(14,.pointer (some ⟨b,0,none⟩)),(13,.pointer (some ⟨b,0,none⟩)),(5,.pointer (some ⟨b1,0,none⟩)),(11,.agg #[I64 ((at_ es (k:Int)).kd),I64 ((at_ es (k:Int)).tm),I64 ((at_ es (k:Int)).u),I64 ((at_ es (k:Int)).v),I64 ((at_ es (k:Int)).w),I64 ((at_ es (k:Int)).lb),I64 ((at_ es (k:Int)).sg)]),(10,elemPtr (va) (((k:Int)).toNat*Enc.sz Ev)),(9,.bool (decide ((k:Int)<((es.length:Nat):Int)))),(0,.pointer (some ⟨b,0,none⟩)),(6,va),(7,I64 (((es.length:Nat):Int))),(8,I64 ((k:Int)))]:Env) (blk b1 [I64 ((at_ es (k:Int)).kd),I64 ((at_ es (k:Int)).tm),I64 ((at_ es (k:Int)).u),I64 ((at_ es (k:Int)).v),I64 ((at_ es (k:Int)).w),I64 ((at_ es (k:Int)).lb),I64 ((at_ es (k:Int)).sg)] 108::blk b [I64 (nd),.slice a1 (List.foldl stepL xs (List.take k es)).length c1,.slice o1 (out++List.take k es).length d1] 241::vc 146 (.slice ad2 (stepL (List.foldl stepL xs (List.take k es)) (at_ es (k:Int))).length cp3) (stepL (List.foldl stepL xs (List.take k es)) (at_ es (k:Int)))::vc 108 (.slice o1 (out++List.take k es).length d1) (out++List.take k es)::I)
  refine Dr 7 rfl (Ad rfl) (Dr 8 rfl (Aw rfl rfl) (Dr 9 rfl (Aw rfl rfl) (Dr 10 rfl (Ba rfl) (Dr 11 rfl (Ac fld241_0 rfl) (Ds1 12 (Se0 rfl (Cx (cs:=[_,_,_]) (vs:=[_,_]) (cs':=[_,_,_]) ty111) ?_))))))
  refine Dz (Ai (Ar (S5 5 0 6 7 8 rfl rfl rfl rfl rfl) (Bd mixed (Bl (blk b1 [I64 ((at_ es (k:Int)).kd),I64 ((at_ es (k:Int)).tm),I64 ((at_ es (k:Int)).u),I64 ((at_ es (k:Int)).v),I64 ((at_ es (k:Int)).w),I64 ((at_ es (k:Int)).lb),I64 ((at_ es (k:Int)).sg)] 108::I) 11 (Dr 0 rfl (Ad rfl) (Dr 1 rfl (Ad rfl) (Dr 2 rfl (Ba rfl) (Dr 3 rfl (Ac fld241_1 rfl) (Dr 5 rfl (Bo (vs:=[_,_,_,_,_,_,_]) ty108) ?_)))))))))
  refine Dh (rs:=[4,6]) kr rfl rfl (Ej ?_ (all1 ?_))
  ·refine Sr rfl (Av ty28) Ay ?_
   refine Ds1 6 (Se1 rfl (B8 (α:=Ev) (cs:=[I64 ((at_ es (k:Int)).kd),I64 ((at_ es (k:Int)).tm),I64 ((at_ es (k:Int)).u),I64 ((at_ es (k:Int)).v),I64 ((at_ es (k:Int)).w),I64 ((at_ es (k:Int)).lb),I64 ((at_ es (k:Int)).sg)]) (xs:=[⟨(at_ es (k:Int)).kd,(at_ es (k:Int)).tm,(at_ es (k:Int)).u,(at_ es (k:Int)).v,(at_ es (k:Int)).w,(at_ es (k:Int)).lb,(at_ es (k:Int)).sg⟩]) A5 ty108 rfl rfl dc dc rfl kr rfl rfl) fun ad5=>?_)
   refine Ds1 7 (Se2 rfl (Ch (α:=Ev) (e:=108) (xs:=out++List.take k es) (ys:=([⟨(at_ es (k:Int)).kd,(at_ es (k:Int)).tm,(at_ es (k:Int)).u,(at_ es (k:Int)).v,(at_ es (k:Int)).w,(at_ es (k:Int)).lb,(at_ es (k:Int)).sg⟩]:List Ev)) A5 ty108 rfl rfl rfl mm Bf (by simp only [List.length_append,List.length_take,List.length_cons,List.length_nil];omega) dc rfl (fun _ _=>am)) fun ad6 cp7=>?_)
   refine Dr 8 rfl (Ba rfl) (Dr 9 rfl (Ac fld241_1 rfl) (Ds1 10 (Se0 rfl (Cx (cs:=[_,_,_]) (vs:=[_]) (cs':=[_,_,_]) ty28) ?_)))
   exact Dz (Aj (Ai (Ar (S4 0 6 7 8 rfl rfl rfl rfl) (A2 (Gr (Rad rfl rfl) (Gm rfl (Bh (B7 ((k+1),(ad2),(cp3),(ad6),(cp7)) (by dsimp only;exact ⟨om,(by rw [steps_succ om];exact stepL_val hv (hfit k om))⟩) (hI:=by (try dsimp only);exact (by rw [steps_succ om,out_succ om];exact Ay))))))))))
  ·refine Se1 rfl (B8 (α:=Ev) (cs:=[I64 ((at_ es (k:Int)).kd),I64 ((at_ es (k:Int)).tm),I64 ((at_ es (k:Int)).u),I64 ((at_ es (k:Int)).v),I64 ((at_ es (k:Int)).w),I64 ((at_ es (k:Int)).lb),I64 ((at_ es (k:Int)).sg)]) (xs:=[⟨(at_ es (k:Int)).kd,(at_ es (k:Int)).tm,(at_ es (k:Int)).u,(at_ es (k:Int)).v,(at_ es (k:Int)).w,(at_ es (k:Int)).lb,(at_ es (k:Int)).sg⟩]) A5 ty108 rfl rfl dc dc rfl kr rfl rfl) fun ad8=>?_
   refine Ds1 4 (Sr rfl (Av ty28) Ay ?_)
   refine Ds1 7 (Se2 rfl (Ch (α:=Ev) (e:=108) (xs:=out++List.take k es) (ys:=([⟨(at_ es (k:Int)).kd,(at_ es (k:Int)).tm,(at_ es (k:Int)).u,(at_ es (k:Int)).v,(at_ es (k:Int)).w,(at_ es (k:Int)).lb,(at_ es (k:Int)).sg⟩]:List Ev)) A5 ty108 rfl rfl rfl mm Bf (by simp only [List.length_append,List.length_take,List.length_cons,List.length_nil];omega) dc rfl (fun _ _=>am)) fun ad9 cp10=>?_)
   refine Dr 8 rfl (Ba rfl) (Dr 9 rfl (Ac fld241_1 rfl) (Ds1 10 (Se0 rfl (Cx (cs:=[_,_,_]) (vs:=[_]) (cs':=[_,_,_]) ty28) ?_)))
   exact Dz (Aj (Ai (Ar (S4 0 6 7 8 rfl rfl rfl rfl) (A2 (Gr (Rad rfl rfl) (Gm rfl (Bh (B7 ((k+1),(ad2),(cp3),(ad9),(cp10)) (by dsimp only;exact ⟨om,(by rw [steps_succ om];exact stepL_val hv (hfit k om))⟩) (hI:=by (try dsimp only);exact (by rw [steps_succ om,out_succ om];exact Ay))))))))))
 ·refine Bs (Am (Am (A7 ?_)))
  have hk2:List.take k es=es:=List.take_of_length_le om
  exact V.end0 rfl (blk b [I64 (nd),.slice a1 (List.foldl stepL xs es).length c1,.slice o1 (out++es).length d1] 241::vc 146 (.slice a1 (List.foldl stepL xs es).length c1) (List.foldl stepL xs es)::vc 108 (.slice o1 (out++es).length d1) (out++es)::I) (by rw [hk2];exact Ay) ⟨⟨a1,c1,o1,d1⟩,rfl,rfl⟩
set_option maxHeartbeats 1000000 in
theorem AgeP_base{κ:Ctx}{I:List Item}{b:Nat}{nd wd mo T last:Int}{a0 o0:Option Addr}{c0 d0:Nat}{xs:List Lk}{out:List Ev}(hI0:SlI nd 2 wd last xs)(hw:checkW 2 wd mo=0)(hT:0≤last∧last≤T∧T≤1048576)(hsz:xs.length+out.length≤400000) :
    CallS Tryz.prog κ 211 [.pointer (some ⟨b,0,none⟩),.agg #[I64 (2),I64 (wd),I64 (mo)],I64 (T)] (blk b [I64 (nd),.slice a0 xs.length c0,.slice o0 out.length d0] 241::vc 146 (.slice a0 xs.length c0) (xs)::vc 108 (.slice o0 out.length d0) (out)::I) (fun r J=>∃y:Option Addr×Nat×Option Addr×Nat,(r = .tuple #[]∧SlI nd 2 wd T (ageL wd mo T xs out).1∧(ageL wd mo T xs out).1.length+(ageL wd mo T xs out).2.length=xs.length+out.length)∧J=blk b [I64 (nd),.slice y.1 ((ageL wd mo T xs out).1).length y.2.1,.slice y.2.2.1 ((ageL wd mo T xs out).2).length y.2.2.2] 241::vc 146 (.slice y.1 ((ageL wd mo T xs out).1).length y.2.1) ((ageL wd mo T xs out).1)::vc 108 (.slice y.2.2.1 ((ageL wd mo T xs out).2).length y.2.2.2) ((ageL wd mo T xs out).2)::I):=by
 refine Ce3 Tryz.func211 rfl rfl ?_
 refine Ah (Ge1 (Bc (cs:=[_,_,_]) rfl rfl rfl) fun b1=>Af (A3 (Bv (σ:=(Option Addr)×Nat×(Option Addr)×Nat×(List Lk)×(List Ev)) (fun s=>([(0,.pointer (some ⟨b,0,none⟩)),(2,I64 (T)),(4,.pointer (some ⟨b1,0,none⟩))]:Env)) (fun s=>blk b [I64 (nd),.slice s.1 s.2.2.2.2.1.length s.2.1,.slice s.2.2.1 s.2.2.2.2.2.length s.2.2.2.1] 241::vc 146 (.slice s.1 s.2.2.2.2.1.length s.2.1) (s.2.2.2.2.1)::vc 108 (.slice s.2.2.1 s.2.2.2.2.2.length s.2.2.2.1) (s.2.2.2.2.2)::blk b1 [I64 (2),I64 (wd),I64 (mo)] 31::I) (fun s=>((ageL wd mo T xs out)=ageL wd mo T s.2.2.2.2.1 s.2.2.2.2.2)∧(SlI nd 2 wd last s.2.2.2.2.1)∧(s.2.2.2.2.1.length+s.2.2.2.2.2.length=xs.length+out.length)) (fun s=>s.2.2.2.2.1.length) (a0,c0,o0,d0,xs,out) (show ((ageL wd mo T xs out)=ageL wd mo T (xs:List Lk) (out:List Ev))∧(SlI nd 2 wd last (xs:List Lk))∧((xs:List Lk).length+(out:List Ev).length=xs.length+out.length) from ⟨rfl,hI0,rfl⟩) (Ab rfl (Ab rfl (Ab rfl Bj))) (show Fit κ _ (blk b [I64 (nd),.slice (a0) (xs).length (c0),.slice (o0) (out).length (d0)] 241::vc 146 (.slice (a0) (xs).length (c0)) ((xs))::vc 108 (.slice (o0) (out).length (d0)) ((out))::blk b1 [I64 (2),I64 (wd),I64 (mo)] 31::I) from Bt) ?_)))
 rintro ⟨a1,c1,o1,d1,ys,zs⟩ hp
 dsimp only at hp ⊢
 obtain ⟨hr,hI,hs⟩:=hp
 refine A3 (Ap (Bd mixed (Bl (blk b [I64 (nd),.slice a1 ys.length c1,.slice o1 zs.length d1] 241::vc 146 (.slice a1 ys.length c1) (ys)::vc 108 (.slice o1 zs.length d1) (zs)::blk b1 [I64 (2),I64 (wd),I64 (mo)] 31::I) 12 (Dr 0 rfl (Ad rfl) (Dr 1 rfl (Ba rfl) (Dr 2 rfl (Ac fld241_0 rfl) (Dr 3 rfl (Bo (vs:=[_,_]) ty111) ?_)))))))
 refine Dr 4 rfl (Ac fld31_1 rfl) (Dr 5 rfl (Av ty3) ?_)
 refine Ds1 6 (Se rfl (Al call252 rfl rfl (First_ok (nd:=nd) Bf (checkS_tm' hI.val) (checkW_wd hw))) ?_)
 rintro _ _ ⟨_,_,⟨zf2,rfl,hfzf2,rfl⟩,rfl,rfl⟩
 refine ⟨Ay,?_⟩
 refine Dr 7 rfl (Ad rfl) (Dr 8 rfl (Aw rfl rfl) (Dr 9 rfl (Aw rfl rfl) (Dr 10 rfl (A6 rfl) (Dr 11 rfl (A6 rfl) ?_))))
 have hzf:=hfzf2
 refine Dz (Ai (Ar (S5 7 6 0 2 4 rfl rfl rfl rfl rfl) (Ap (Ah (Gm rfl (Gr (Dp rfl) (Gm rfl (Bk (d:=20) rfl (fun g20=>?_) (fun g20=>?_)))))))))
 ·refine Gpo (Gpo (Gpo (Gr (As rfl rfl) (Af (C0 rfl (Az (Ak (Ao (Ak (Ao ?_))))))))))
  have hstop:¬(0<ys.length∧minT ys+wd≤T):=(fun h=>by have hz:=minT_uniq (hzf.1 h.1);omega)
  have hE:(ageL wd mo T xs out)=(ys,zs):=hr.trans (ageL_stop hstop)
  exact V.ret0 rfl (blk b [I64 (nd),.slice a1 ((ageL wd mo T xs out).1).length c1,.slice o1 ((ageL wd mo T xs out).2).length d1] 241::vc 146 (.slice a1 ((ageL wd mo T xs out).1).length c1) ((ageL wd mo T xs out).1)::vc 108 (.slice o1 ((ageL wd mo T xs out).2).length d1) ((ageL wd mo T xs out).2)::I) (by rw [hE];exact Ay) ⟨⟨a1,c1,o1,d1⟩,⟨rfl,by rw [hE];exact hI.later hT.2.1 (fun _=>hstop),by rw [hE];exact hs⟩,rfl⟩
 ·refine Gro (Ad rfl) (Gro (Ad rfl) (Gro (B2 rfl rfl) (Gr (Au rfl rfl) (Af (A9 rfl (fun c24=>?_) (fun c24=>?_))))))
  ·refine Az (Ak (Ao (Ak (Ao ?_))))
   have hstop:¬(0<ys.length∧minT ys+wd≤T):=(fun h=>by have hz:=minT_uniq (hzf.1 h.1);omega)
   have hE:(ageL wd mo T xs out)=(ys,zs):=hr.trans (ageL_stop hstop)
   exact V.ret0 rfl (blk b [I64 (nd),.slice a1 ((ageL wd mo T xs out).1).length c1,.slice o1 ((ageL wd mo T xs out).2).length d1] 241::vc 146 (.slice a1 ((ageL wd mo T xs out).1).length c1) ((ageL wd mo T xs out).1)::vc 108 (.slice o1 ((ageL wd mo T xs out).2).length d1) ((ageL wd mo T xs out).2)::I) (by rw [hE];exact Ay) ⟨⟨a1,c1,o1,d1⟩,⟨rfl,by rw [hE];exact hI.later hT.2.1 (fun _=>hstop),by rw [hE];exact hs⟩,rfl⟩
  ·refine A1 (Ai (Bd mixed (Bl (blk b1 [I64 (2),I64 (wd),I64 (mo)] 31::I) 9 (Dr 0 rfl (Ad rfl) (Dr 1 rfl (Ad rfl) (Dr 2 rfl (Ba rfl) (Dr 3 rfl (Ac fld241_0 rfl) (Dr 5 rfl (Bo (vs:=[_,_,_]) ty31) ?_))))))))
   refine Dr 6 rfl (Ad rfl) (Ds1 4 (Sr rfl (Bo (vs:=[_,_]) ty111) Ay ?_))
   refine Ds1 7 (Sc2 rfl (Al call213 rfl rfl (GoneP_ok (nd:=nd) Bf om (hI.ask hw (by have hzz:=hI.first rfl om;have hz:=minT_uniq (hzf.1 om);omega) (by have hzz:=hI.first rfl om;have hz:=minT_uniq (hzf.1 om);omega)))) fun ad3 cp4=>?_)
   refine Ds1 8 (Se rfl (Al call212 rfl rfl (Cg (J:=blk b [I64 (nd),.slice a1 ys.length c1,.slice o1 zs.length d1] 241::vc 146 (.slice a1 ys.length c1) (ys)::vc 108 (.slice o1 zs.length d1) (zs)::vc 108 (.slice ad3 (goneL 2 wd mo zf2 ys).length cp4) (goneL 2 wd mo zf2 ys)::blk b1 [I64 (2),I64 (wd),I64 (mo)] 31::I) Bt (PutP_base (nd:=nd) (xs:=ys) (out:=zs) (es:=goneL 2 wd mo zf2 ys) Bf (hI.val) (fitgone hI.val (by have hzz:=hI.first rfl om;have hz:=minT_uniq (hzf.1 om);omega)) (by have h:=gone_len 2 wd mo zf2 ys;omega) (by have h:=gone_len 2 wd mo zf2 ys;omega)))) ?_)
   rintro _ _ ⟨_,_,⟨⟨ad5,cp6,ad7,cp8⟩,rfl,rfl⟩,rfl,rfl⟩
   refine ⟨Ay,?_⟩
   show D Tryz.prog κ _ _ _ _ _ _ _ ([(33,.tuple #[]),(32,.slice ad3 (goneL 2 wd mo zf2 ys).length cp4),(29,.agg #[I64 (nd),.slice a1 ys.length c1]),(31,I64 (zf2)),(30,.agg #[I64 (2),I64 (wd),I64 (mo)]),(28,.pointer (some ⟨b,0,none⟩)),(27,.pointer (some ⟨b,0,none⟩)),(26,.pointer (some ⟨b,0,none⟩)),(25,.pointer (some ⟨b,0,none⟩)),(24,.bool (decide (T<zf2))),(23,.bool (decide (T<zf2))),(22,I64 (T)),(21,I64 (zf2)),(20,.bool false),(20,.bool (decide (¬(0<ys.length)))),(19,.bool (decide (¬(0<ys.length)))),(18,.bool (decide (0<ys.length))),(7,.bool (decide (0<ys.length))),(6,I64 (zf2)),(0,.pointer (some ⟨b,0,none⟩)),(2,I64 (T)),(4,.pointer (some ⟨b1,0,none⟩))]:Env) (blk b [I64 (nd),.slice ad5 (List.foldl stepL ys (goneL 2 wd mo zf2 ys)).length cp6,.slice ad7 (zs++(goneL 2 wd mo zf2 ys)).length cp8] 241::vc 146 (.slice ad5 (List.foldl stepL ys (goneL 2 wd mo zf2 ys)).length cp6) (List.foldl stepL ys (goneL 2 wd mo zf2 ys))::vc 108 (.slice ad7 (zs++(goneL 2 wd mo zf2 ys)).length cp8) (zs++(goneL 2 wd mo zf2 ys))::vc 108 (.slice ad3 (goneL 2 wd mo zf2 ys).length cp4) (goneL 2 wd mo zf2 ys)::blk b1 [I64 (2),I64 (wd),I64 (mo)] 31::I)
   refine Dz (Aj ?_)
   have hpos:0<ys.length:=by omega
   have hz:zf2=minT ys+wd:=minT_uniq (hzf.1 hpos)
   have hg:List.foldl stepL ys (goneL 2 wd mo zf2 ys)=List.filter (inW 2 wd mo zf2 ys) ys:=gone_steps hI.val
   have hgl:=gone_len 2 wd mo zf2 ys
   have hal:(List.filter (inW 2 wd mo zf2 ys) ys).length<ys.length:=by rw [hz];exact age_less (wd:=wd) (mo:=mo) hpos
   exact B7 ((ad5),(cp6),(ad7),(cp8),(List.filter (inW 2 wd mo zf2 ys) ys),(zs++goneL 2 wd mo zf2 ys)) (by dsimp only;exact ⟨(by rw [hr,ageL_step ⟨hpos,by omega⟩,←hz]),(hI.filter _),(by rw [List.length_append];omega)⟩) (hlt:=by (try dsimp only);exact hal) (hI:=by (try dsimp only);exact (by rw [hg];exact Ay))
variable {κ:Ctx}{I:List Item}
theorem AgeP_two{b:Nat}{nd kd wd mo T last:Int}{a0 o0:Option Addr}{c0 d0:Nat}{xs:List Lk}{out:List Ev}(hk:kd=2)(hI0:SlI nd kd wd last xs)(hw:checkW kd wd mo=0)(hT:0≤last∧last≤T∧T≤1048576)(hsz:xs.length+out.length≤400000) :
  CallS Tryz.prog κ 211 [.pointer (some ⟨b,0,none⟩),.agg #[I64 kd,I64 wd,I64 mo],I64 T] (blk b [I64 (nd),.slice a0 xs.length c0,.slice o0 out.length d0] 241::vc 146 (.slice a0 xs.length c0) (xs)::vc 108 (.slice o0 out.length d0) (out)::I) (fun r J=>∃y:Option Addr×Nat×Option Addr×Nat,(r = .tuple #[]∧SlI nd kd wd T (ageL wd mo T xs out).1∧(ageL wd mo T xs out).1.length+(ageL wd mo T xs out).2.length=xs.length+out.length)∧J=blk b [I64 (nd),.slice y.1 ((ageL wd mo T xs out).1).length y.2.1,.slice y.2.2.1 ((ageL wd mo T xs out).2).length y.2.2.2] 241::vc 146 (.slice y.1 ((ageL wd mo T xs out).1).length y.2.1) ((ageL wd mo T xs out).1)::vc 108 (.slice y.2.2.1 ((ageL wd mo T xs out).2).length y.2.2.2) ((ageL wd mo T xs out).2)::I):=by
 subst hk
 exact AgeP_base hI0 hw hT hsz
theorem evStep_three{kd wd mo:Int}{xs:List Lk}{out:List Ev}{e:Ev}{ys:List Lk}{zs:List Ev}(h:agedL kd wd mo e.tm (xs,out)=(ys,zs))(hk:kd=3):evStep kd wd mo (xs,out) e=((stepL ys e).filter (inW kd wd mo e.tm (stepL ys e)),zs++[e]++goneL kd wd mo e.tm (stepL ys e)):=by
 unfold evStep windL;rw [h,if_pos hk]
theorem evStep_not{kd wd mo:Int}{xs:List Lk}{out:List Ev}{e:Ev}{ys:List Lk}{zs:List Ev}(h:agedL kd wd mo e.tm (xs,out)=(ys,zs))(hk:¬kd=3):evStep kd wd mo (xs,out) e=(stepL ys e,zs++[e]):=by
 unfold evStep windL;rw [h,if_neg hk]
theorem checkW_one{kd wd mo:Int}(h:checkW kd wd mo=0)(hk:kd=2):1≤wd:=by
 unfold checkW at h
 split at h
 ·cases h
 ·split at h
  ·cases h
  ·omega
theorem lastT_ge{nd:Int}{es:List Ev}(h:StOk nd es){k:Nat}(hk:k≤es.length):0≤lastT es k:=by
 cases k with
 |zero=>exact Int.le_refl _
 |succ k=>rw [lastT_succ];exact (h.fit k om).tm.1
theorem slideE_st{nd kd wd mo:Int}{es:List Ev}(h1:¬checkW kd wd mo≠0):slideE nd kd wd mo es=streamE nd es:=by unfold slideE;rw [if_neg h1]
set_option maxHeartbeats 1000000 in
theorem Slide_ok{nd kd wd mo:Int}{va:Value}{es:List Ev}(hl:Sl κ I va es) :
    CallS Tryz.prog κ 140 [I64 (nd),va,.agg #[I64 (kd),I64 (wd),I64 (mo)]] I (fun r J=>((slideE nd kd wd mo es)≠0∧r = .tuple #[.slice none 0 0,I64 (slideE nd kd wd mo es)]∧I=J)∨(∃a c,(slideE nd kd wd mo es)=0∧r = .tuple #[.slice a (slideS kd wd mo es).2.length c,I64 0]∧J=vc 108 (.slice a (slideS kd wd mo es).2.length c) (slideS kd wd mo es).2::I)):=by
 refine B4 hl.le fun hmax=>?_
 refine Ce3 Tryz.func140 rfl rfl ?_
 refine Ah (Ge1 (Bc (cs:=[_,_,_]) rfl rfl rfl) fun b1=>Ga rfl (Ga rfl (Af (Ap (Ah (Gl3 ty31 ?_))))))
 refine G.e (Al call78 rfl rfl (CheckW_ok kd wd mo)) ?_
 rintro _ _ ⟨_,_,⟨rfl,rfl⟩,rfl,rfl⟩
 refine Ga rfl (Af (Ah (Gm rfl (Gr (Br rfl rfl) (Af (A9 rfl (fun c16=>?_) (fun c16=>?_)))))))
 ·refine Ah (Gm rfl (Ga rfl (Ga rfl (Af (Ar (S2 7 6 rfl rfl) (Az (Ak ?_)))))))
  have hz:(slideE nd kd wd mo es)=checkW kd wd mo:=by unfold slideE;rw [if_pos c16]
  exact Ct rfl rfl rfl (I) Ax (.inl ⟨by rw [hz];exact c16,by rw [hz],rfl⟩)
 ·refine A1 (Ai (Ap (Ah (Gm rfl (Gm rfl (G.e (Al call139 rfl rfl (Stream_ok (nd:=nd) (Bi hl))) ?_))))))
  rintro _ _ ⟨_,_,⟨rfl,rfl⟩,rfl,rfl⟩
  refine Ga rfl (Af (Ar (S4 9 5 0 1 rfl rfl rfl rfl) (Ah (Gm rfl (Gr (Br rfl rfl) (Af (A9 rfl (fun c22=>?_) (fun c22=>?_))))))))
  ·refine Ah (Gm rfl (Ga rfl (Ga rfl (Af (Az (Ak ?_))))))
   have hz:(slideE nd kd wd mo es)=streamE nd es:=slideE_st c16
   exact Ct rfl rfl rfl (I) Ax (.inl ⟨by rw [hz];exact c22,by rw [hz],rfl⟩)
  ·refine A1 (Ai (Ah (Gm rfl ?_)))
   have hE:=streamE_ok (Classical.not_not.1 c22)
   refine Gr (Bg (cells:=[_,_]) ty111 Tryz.underlying111 pl111 rfl rfl) (Gr (Bg (cells:=[_,_,_]) ty241 Tryz.underlying241 pl241 rfl rfl) (Ge1 (Bc (cs:=[_,_,_]) rfl rfl rfl) fun b2=>Ga rfl (Af (Ap (Ah (Gm rfl (Gr (Bw (α:=Ev) (xs:=es) A5 rfl (Bi hl)) (Gm rfl (Af (Ar (S5 30 29 28 10 5 rfl rfl rfl rfl rfl) (A3 (Bv (σ:=Nat×(Option Addr)×Nat×(Option Addr)×Nat×(List Lk)×(List Ev)) (fun s=>([(5,.pointer (some ⟨b1,0,none⟩)),(10,.pointer (some ⟨b2,0,none⟩)),(28,va),(29,I64 (((es.length:Nat):Int))),(30,I64 (((s.1:Nat):Int)))]:Env)) (fun s=>blk b2 [I64 (nd),.slice s.2.1 s.2.2.2.2.2.1.length s.2.2.1,.slice s.2.2.2.1 s.2.2.2.2.2.2.length s.2.2.2.2.1] 241::vc 146 (.slice s.2.1 s.2.2.2.2.2.1.length s.2.2.1) (s.2.2.2.2.2.1)::vc 108 (.slice s.2.2.2.1 s.2.2.2.2.2.2.length s.2.2.2.2.1) (s.2.2.2.2.2.2)::blk b1 [I64 (kd),I64 (wd),I64 (mo)] 31::I) (fun s=>(s.1≤es.length)∧(slideS kd wd mo (List.take s.1 es)=(s.2.2.2.2.2.1,s.2.2.2.2.2.2))∧(SlI nd kd wd (lastT es s.1) s.2.2.2.2.2.1)∧(s.2.2.2.2.2.1.length+s.2.2.2.2.2.2.length≤2*s.1)) (fun s=>es.length - s.1) (0,none,0,none,0,[],[]) (show ((0:Nat)≤es.length)∧(slideS kd wd mo (List.take (0:Nat) es)=(([]:List Lk),([]:List Ev)))∧(SlI nd kd wd (lastT es (0:Nat)) ([]:List Lk))∧(([]:List Lk).length+([]:List Ev).length≤2*(0:Nat)) from ⟨om,rfl,(SlI.nil hE.nodes),(by simp)⟩) (Ab rfl (Ab rfl (Ab rfl (Ab rfl (Ab Cc Bj))))) (show Fit κ _ (blk b2 [I64 (nd),.slice (none) ([]).length (0),.slice (none) ([]).length (0)] 241::vc 146 (.slice (none) ([]).length (0)) (([]))::vc 108 (.slice (none) ([]).length (0)) (([]))::blk b1 [I64 (kd),I64 (wd),I64 (mo)] 31::I) from (Cs (Bx 108 _) (Cs (Bx 146 _) Bt))) ?_))))))))))))
   rintro ⟨k,a1,c1,o1,d1,xs,out⟩ hp
   dsimp only at hp ⊢
   obtain ⟨hk,hst,hI,hs⟩:=hp
   have hlen:=hE.len
   refine Ah (Gr (Bb rfl rfl) (Af (Ap (A9 rfl (fun c31=>?_) (fun c31=>?_)))))
   ·refine A1 (Ai (Ap (A3 (Ah (Gr (A0 (α:=Ev) (xs:=es) A5 ty108 rfl rfl (Bi hl) om om) (Gr (Bu (α:=Ev) (xs:=es) ty108 rfl (Bi hl) om om) (Ge1 (A8 ty108 rfl) fun b3=>Ge0 (Es7_7 ty108) ?_)))))))
    have hfe:=hE.fit k om
    have hto:=hE.asc k om
    refine Af (W.cut (σ:=(Option Addr)×Nat×(Option Addr)×Nat×(List Lk)×(List Ev)) (fun s=>([(5,.pointer (some ⟨b1,0,none⟩)),(10,.pointer (some ⟨b2,0,none⟩)),(12,.pointer (some ⟨b3,0,none⟩)),(28,va),(29,I64 (((es.length:Nat):Int))),(30,I64 ((k:Int)))]:Env)) (fun s=>blk b2 [I64 (nd),.slice s.1 s.2.2.2.2.1.length s.2.1,.slice s.2.2.1 s.2.2.2.2.2.length s.2.2.2.1] 241::vc 146 (.slice s.1 s.2.2.2.2.1.length s.2.1) (s.2.2.2.2.1)::vc 108 (.slice s.2.2.1 s.2.2.2.2.2.length s.2.2.2.1) (s.2.2.2.2.2)::blk b3 [I64 ((at_ es (k:Int)).kd),I64 ((at_ es (k:Int)).tm),I64 ((at_ es (k:Int)).u),I64 ((at_ es (k:Int)).v),I64 ((at_ es (k:Int)).w),I64 ((at_ es (k:Int)).lb),I64 ((at_ es (k:Int)).sg)] 108::blk b1 [I64 (kd),I64 (wd),I64 (mo)] 31::I) (fun s=>((agedL kd wd mo (at_ es (k:Int)).tm (xs,out))=(s.2.2.2.2.1,s.2.2.2.2.2))∧(SlI nd kd wd (at_ es (k:Int)).tm s.2.2.2.2.1)∧(s.2.2.2.2.1.length+s.2.2.2.2.2.length=xs.length+out.length)) ?_ ?_)
    ·refine Ah (Gf fld31_0 rfl (Gl ty3 ?_))
     refine Gr (Bm rfl rfl) (Af (A9 rfl (fun c36=>?_) (fun c36=>?_)))
     ·refine A2 (Gm rfl (Gl3 ty31 ?_))
      refine Gf fld108_1 rfl (Gl ty3 ?_)
      refine G.e (Al call211 rfl rfl (Cg (J:=blk b2 [I64 (nd),.slice a1 xs.length c1,.slice o1 out.length d1] 241::vc 146 (.slice a1 xs.length c1) (xs)::vc 108 (.slice o1 out.length d1) (out)::blk b3 [I64 ((at_ es (k:Int)).kd),I64 ((at_ es (k:Int)).tm),I64 ((at_ es (k:Int)).u),I64 ((at_ es (k:Int)).v),I64 ((at_ es (k:Int)).w),I64 ((at_ es (k:Int)).lb),I64 ((at_ es (k:Int)).sg)] 108::blk b1 [I64 (kd),I64 (wd),I64 (mo)] 31::I) Bt (AgeP_two (nd:=nd) (T:=(at_ es (k:Int)).tm) (xs:=xs) (out:=out) c36 hI (Classical.not_not.1 c16) ⟨lastT_ge hE om,hto,hfe.tm.2⟩ om))) ?_
      rintro _ _ ⟨_,_,⟨⟨ad4,cp5,ad6,cp7⟩,⟨rfl,hag⟩,rfl⟩,rfl,rfl⟩
      show G Tryz.prog κ _ _ _ _ ([(41,.tuple #[]),(40,I64 ((at_ es (k:Int)).tm)),(39,.pointer (some ⟨b3,1,none⟩)),(38,.agg #[I64 (kd),I64 (wd),I64 (mo)]),(37,.pointer (some ⟨b2,0,none⟩)),(36,.bool (decide (kd=2))),(35,I64 (kd)),(34,.pointer (some ⟨b1,0,none⟩)),(12,.pointer (some ⟨b3,0,none⟩)),(33,.agg #[I64 ((at_ es (k:Int)).kd),I64 ((at_ es (k:Int)).tm),I64 ((at_ es (k:Int)).u),I64 ((at_ es (k:Int)).v),I64 ((at_ es (k:Int)).w),I64 ((at_ es (k:Int)).lb),I64 ((at_ es (k:Int)).sg)]),(32,elemPtr (va) (((k:Int)).toNat*Enc.sz Ev)),(31,.bool (decide ((k:Int)<((es.length:Nat):Int)))),(5,.pointer (some ⟨b1,0,none⟩)),(10,.pointer (some ⟨b2,0,none⟩)),(28,va),(29,I64 (((es.length:Nat):Int))),(30,I64 ((k:Int)))]:Env) (blk b2 [I64 (nd),.slice ad4 ((ageL wd mo ((at_ es (k:Int)).tm) xs out).1).length cp5,.slice ad6 ((ageL wd mo ((at_ es (k:Int)).tm) xs out).2).length cp7] 241::vc 146 (.slice ad4 ((ageL wd mo ((at_ es (k:Int)).tm) xs out).1).length cp5) ((ageL wd mo ((at_ es (k:Int)).tm) xs out).1)::vc 108 (.slice ad6 ((ageL wd mo ((at_ es (k:Int)).tm) xs out).2).length cp7) ((ageL wd mo ((at_ es (k:Int)).tm) xs out).2)::blk b3 [I64 ((at_ es (k:Int)).kd),I64 ((at_ es (k:Int)).tm),I64 ((at_ es (k:Int)).u),I64 ((at_ es (k:Int)).v),I64 ((at_ es (k:Int)).w),I64 ((at_ es (k:Int)).lb),I64 ((at_ es (k:Int)).sg)] 108::blk b1 [I64 (kd),I64 (wd),I64 (mo)] 31::I)
      exact Bh (Du ((ad4),(cp5),(ad6),(cp7),((ageL wd mo (at_ es (k:Int)).tm xs out).1),((ageL wd mo (at_ es (k:Int)).tm xs out).2)) (by dsimp only;exact ⟨(by unfold agedL;rw [if_pos c36]),hag.1,hag.2⟩))
     ·exact A1 (Du ((a1),(c1),(o1),(d1),(xs),(out)) (by dsimp only;exact ⟨(by unfold agedL;rw [if_neg c36]),(hI.later hto (fun h=>absurd h c36)),rfl⟩))
    ·rintro ⟨a2,c2,o2,d2,ys,zs⟩ hp
     obtain ⟨hag,hI2,hs2⟩:((agedL kd wd mo (at_ es (k:Int)).tm (xs,out))=(ys,zs))∧(SlI nd kd wd (at_ es (k:Int)).tm ys)∧(ys.length+zs.length=xs.length+out.length):=hp
     show W Tryz.prog κ 64 _ _ ([(5,.pointer (some ⟨b1,0,none⟩)),(10,.pointer (some ⟨b2,0,none⟩)),(12,.pointer (some ⟨b3,0,none⟩)),(28,va),(29,I64 (((es.length:Nat):Int))),(30,I64 ((k:Int)))]:Env) (blk b2 [I64 (nd),.slice a2 ys.length c2,.slice o2 zs.length d2] 241::vc 146 (.slice a2 ys.length c2) (ys)::vc 108 (.slice o2 zs.length d2) (zs)::blk b3 [I64 ((at_ es (k:Int)).kd),I64 ((at_ es (k:Int)).tm),I64 ((at_ es (k:Int)).u),I64 ((at_ es (k:Int)).v),I64 ((at_ es (k:Int)).w),I64 ((at_ es (k:Int)).lb),I64 ((at_ es (k:Int)).sg)] 108::blk b1 [I64 (kd),I64 (wd),I64 (mo)] 31::I)
     refine Ah (Gm rfl (Gl7 ty108 ?_))
     refine Ge1 (B8 (α:=Ev) (cs:=[I64 ((at_ es (k:Int)).kd),I64 ((at_ es (k:Int)).tm),I64 ((at_ es (k:Int)).u),I64 ((at_ es (k:Int)).v),I64 ((at_ es (k:Int)).w),I64 ((at_ es (k:Int)).lb),I64 ((at_ es (k:Int)).sg)]) (xs:=[⟨(at_ es (k:Int)).kd,(at_ es (k:Int)).tm,(at_ es (k:Int)).u,(at_ es (k:Int)).v,(at_ es (k:Int)).w,(at_ es (k:Int)).lb,(at_ es (k:Int)).sg⟩]) A5 ty108 rfl rfl dc dc rfl kr rfl rfl) fun ad8=>?_
     refine G.e (Al call212 rfl rfl (Cg (J:=blk b2 [I64 (nd),.slice a2 ys.length c2,.slice o2 zs.length d2] 241::vc 146 (.slice a2 ys.length c2) (ys)::vc 108 (.slice o2 zs.length d2) (zs)::vc 108 (.slice ad8 1 1) (([⟨(at_ es (k:Int)).kd,(at_ es (k:Int)).tm,(at_ es (k:Int)).u,(at_ es (k:Int)).v,(at_ es (k:Int)).w,(at_ es (k:Int)).lb,(at_ es (k:Int)).sg⟩]:List Ev))::blk b3 [I64 ((at_ es (k:Int)).kd),I64 ((at_ es (k:Int)).tm),I64 ((at_ es (k:Int)).u),I64 ((at_ es (k:Int)).v),I64 ((at_ es (k:Int)).w),I64 ((at_ es (k:Int)).lb),I64 ((at_ es (k:Int)).sg)] 108::blk b1 [I64 (kd),I64 (wd),I64 (mo)] 31::I) Bt (PutP_base (nd:=nd) (xs:=ys) (out:=zs) (es:=([⟨(at_ es (k:Int)).kd,(at_ es (k:Int)).tm,(at_ es (k:Int)).u,(at_ es (k:Int)).v,(at_ es (k:Int)).w,(at_ es (k:Int)).lb,(at_ es (k:Int)).sg⟩]:List Ev)) Bf hI2.val (fitone hfe) (by have h:=stepL_len ys (at_ es (k:Int));have h9:=gone_len kd wd mo (at_ es (k:Int)).tm (stepL ys (at_ es (k:Int)));first|(simp only [List.length_append,List.length_cons,List.length_nil];omega)|omega) (by have h:=stepL_len ys (at_ es (k:Int));have h9:=gone_len kd wd mo (at_ es (k:Int)).tm (stepL ys (at_ es (k:Int)));first|(simp only [List.length_append,List.length_cons,List.length_nil];omega)|omega)))) ?_
     rintro _ _ ⟨_,_,⟨⟨ad9,cp10,ad11,cp12⟩,rfl,rfl⟩,rfl,rfl⟩
     show G Tryz.prog κ _ _ _ _ ([(45,.tuple #[]),(44,.slice ad8 1 1),(43,.agg #[I64 ((at_ es (k:Int)).kd),I64 ((at_ es (k:Int)).tm),I64 ((at_ es (k:Int)).u),I64 ((at_ es (k:Int)).v),I64 ((at_ es (k:Int)).w),I64 ((at_ es (k:Int)).lb),I64 ((at_ es (k:Int)).sg)]),(42,.pointer (some ⟨b2,0,none⟩)),(5,.pointer (some ⟨b1,0,none⟩)),(10,.pointer (some ⟨b2,0,none⟩)),(12,.pointer (some ⟨b3,0,none⟩)),(28,va),(29,I64 (((es.length:Nat):Int))),(30,I64 ((k:Int)))]:Env) (blk b2 [I64 (nd),.slice ad9 (List.foldl stepL ys ([⟨(at_ es (k:Int)).kd,(at_ es (k:Int)).tm,(at_ es (k:Int)).u,(at_ es (k:Int)).v,(at_ es (k:Int)).w,(at_ es (k:Int)).lb,(at_ es (k:Int)).sg⟩]:List Ev)).length cp10,.slice ad11 (zs++([⟨(at_ es (k:Int)).kd,(at_ es (k:Int)).tm,(at_ es (k:Int)).u,(at_ es (k:Int)).v,(at_ es (k:Int)).w,(at_ es (k:Int)).lb,(at_ es (k:Int)).sg⟩]:List Ev)).length cp12] 241::vc 146 (.slice ad9 (List.foldl stepL ys ([⟨(at_ es (k:Int)).kd,(at_ es (k:Int)).tm,(at_ es (k:Int)).u,(at_ es (k:Int)).v,(at_ es (k:Int)).w,(at_ es (k:Int)).lb,(at_ es (k:Int)).sg⟩]:List Ev)).length cp10) (List.foldl stepL ys ([⟨(at_ es (k:Int)).kd,(at_ es (k:Int)).tm,(at_ es (k:Int)).u,(at_ es (k:Int)).v,(at_ es (k:Int)).w,(at_ es (k:Int)).lb,(at_ es (k:Int)).sg⟩]:List Ev))::vc 108 (.slice ad11 (zs++([⟨(at_ es (k:Int)).kd,(at_ es (k:Int)).tm,(at_ es (k:Int)).u,(at_ es (k:Int)).v,(at_ es (k:Int)).w,(at_ es (k:Int)).lb,(at_ es (k:Int)).sg⟩]:List Ev)).length cp12) (zs++([⟨(at_ es (k:Int)).kd,(at_ es (k:Int)).tm,(at_ es (k:Int)).u,(at_ es (k:Int)).v,(at_ es (k:Int)).w,(at_ es (k:Int)).lb,(at_ es (k:Int)).sg⟩]:List Ev))::vc 108 (.slice ad8 1 1) (([⟨(at_ es (k:Int)).kd,(at_ es (k:Int)).tm,(at_ es (k:Int)).u,(at_ es (k:Int)).v,(at_ es (k:Int)).w,(at_ es (k:Int)).lb,(at_ es (k:Int)).sg⟩]:List Ev))::blk b3 [I64 ((at_ es (k:Int)).kd),I64 ((at_ es (k:Int)).tm),I64 ((at_ es (k:Int)).u),I64 ((at_ es (k:Int)).v),I64 ((at_ es (k:Int)).w),I64 ((at_ es (k:Int)).lb),I64 ((at_ es (k:Int)).sg)] 108::blk b1 [I64 (kd),I64 (wd),I64 (mo)] 31::I)
     show G Tryz.prog κ _ _ _ _ ([(45,.tuple #[]),(44,.slice ad8 1 1),(43,.agg #[I64 ((at_ es (k:Int)).kd),I64 ((at_ es (k:Int)).tm),I64 ((at_ es (k:Int)).u),I64 ((at_ es (k:Int)).v),I64 ((at_ es (k:Int)).w),I64 ((at_ es (k:Int)).lb),I64 ((at_ es (k:Int)).sg)]),(42,.pointer (some ⟨b2,0,none⟩)),(5,.pointer (some ⟨b1,0,none⟩)),(10,.pointer (some ⟨b2,0,none⟩)),(12,.pointer (some ⟨b3,0,none⟩)),(28,va),(29,I64 (((es.length:Nat):Int))),(30,I64 ((k:Int)))]:Env) (blk b2 [I64 (nd),.slice ad9 (stepL ys (at_ es (k:Int))).length cp10,.slice ad11 (zs++[(at_ es (k:Int))]).length cp12] 241::vc 146 (.slice ad9 (stepL ys (at_ es (k:Int))).length cp10) (stepL ys (at_ es (k:Int)))::vc 108 (.slice ad11 (zs++[(at_ es (k:Int))]).length cp12) (zs++[(at_ es (k:Int))])::vc 108 (.slice ad8 1 1) (([⟨(at_ es (k:Int)).kd,(at_ es (k:Int)).tm,(at_ es (k:Int)).u,(at_ es (k:Int)).v,(at_ es (k:Int)).w,(at_ es (k:Int)).lb,(at_ es (k:Int)).sg⟩]:List Ev))::blk b3 [I64 ((at_ es (k:Int)).kd),I64 ((at_ es (k:Int)).tm),I64 ((at_ es (k:Int)).u),I64 ((at_ es (k:Int)).v),I64 ((at_ es (k:Int)).w),I64 ((at_ es (k:Int)).lb),I64 ((at_ es (k:Int)).sg)] 108::blk b1 [I64 (kd),I64 (wd),I64 (mo)] 31::I)
     refine Af (Ah (Gf fld31_0 rfl (Gl ty3 ?_)))
     refine Gr (Bm rfl rfl) ?_
     have hI3:SlI nd kd wd (at_ es (k:Int)).tm (stepL ys (at_ es (k:Int))):=hI2.step hfe rfl (checkW_one (Classical.not_not.1 c16))
     refine Af (A9 rfl (fun c48=>?_) (fun c48=>?_))
     ·refine Bd mixed (Bl (blk b3 [I64 ((at_ es (k:Int)).kd),I64 ((at_ es (k:Int)).tm),I64 ((at_ es (k:Int)).u),I64 ((at_ es (k:Int)).v),I64 ((at_ es (k:Int)).w),I64 ((at_ es (k:Int)).lb),I64 ((at_ es (k:Int)).sg)] 108::blk b1 [I64 (kd),I64 (wd),I64 (mo)] 31::I) 10 (Dr 0 rfl (Ad rfl) (Dr 1 rfl (Ad rfl) (Dr 2 rfl (Ba rfl) (Dr 3 rfl (Ac fld241_0 rfl) (Dr 5 rfl (Bo (vs:=[_,_,_]) ty31) ?_))))))
      refine Dr 6 rfl (Ac fld108_1 rfl) (Dr 7 rfl (Av ty3) ?_)
      refine Ds1 4 (Sr rfl (Bo (vs:=[_,_]) ty111) Ay ?_)
      refine Ds1 8 (Sc2 rfl (Al call213 rfl rfl (GoneP_ok (nd:=nd) Bf (by have h:=stepL_len ys (at_ es (k:Int));show (stepL ys (at_ es (k:Int))).length≤1000000;omega) (hI3.ask (Classical.not_not.1 c16) hfe.tm (Int.le_refl _)))) fun ad13 cp14=>?_)
      refine Ds1 9 (Se rfl (Al call212 rfl rfl (Cg (J:=blk b2 [I64 (nd),.slice ad9 (stepL ys (at_ es (k:Int))).length cp10,.slice ad11 (zs++[(at_ es (k:Int))]).length cp12] 241::vc 146 (.slice ad9 (stepL ys (at_ es (k:Int))).length cp10) (stepL ys (at_ es (k:Int)))::vc 108 (.slice ad11 (zs++[(at_ es (k:Int))]).length cp12) (zs++[(at_ es (k:Int))])::vc 108 (.slice ad13 (goneL kd wd mo ((at_ es (k:Int)).tm) (stepL ys (at_ es (k:Int)))).length cp14) (goneL kd wd mo ((at_ es (k:Int)).tm) (stepL ys (at_ es (k:Int))))::vc 108 (.slice ad8 1 1) (([⟨(at_ es (k:Int)).kd,(at_ es (k:Int)).tm,(at_ es (k:Int)).u,(at_ es (k:Int)).v,(at_ es (k:Int)).w,(at_ es (k:Int)).lb,(at_ es (k:Int)).sg⟩]:List Ev))::blk b3 [I64 ((at_ es (k:Int)).kd),I64 ((at_ es (k:Int)).tm),I64 ((at_ es (k:Int)).u),I64 ((at_ es (k:Int)).v),I64 ((at_ es (k:Int)).w),I64 ((at_ es (k:Int)).lb),I64 ((at_ es (k:Int)).sg)] 108::blk b1 [I64 (kd),I64 (wd),I64 (mo)] 31::I) Bt (PutP_base (nd:=nd) (xs:=stepL ys (at_ es (k:Int))) (out:=zs++[(at_ es (k:Int))]) (es:=goneL kd wd mo ((at_ es (k:Int)).tm) (stepL ys (at_ es (k:Int)))) Bf hI3.val (fitgone hI3.val hfe.tm) (by have h:=stepL_len ys (at_ es (k:Int));have h9:=gone_len kd wd mo (at_ es (k:Int)).tm (stepL ys (at_ es (k:Int)));first|(simp only [List.length_append,List.length_cons,List.length_nil];omega)|omega) (by have h:=stepL_len ys (at_ es (k:Int));have h9:=gone_len kd wd mo (at_ es (k:Int)).tm (stepL ys (at_ es (k:Int)));first|(simp only [List.length_append,List.length_cons,List.length_nil];omega)|omega)))) ?_)
      rintro _ _ ⟨_,_,⟨⟨ad15,cp16,ad17,cp18⟩,rfl,rfl⟩,rfl,rfl⟩
      refine ⟨Ay,?_⟩
      show D Tryz.prog κ _ _ _ _ _ _ _ ([(58,.tuple #[]),(57,.slice ad13 (goneL kd wd mo ((at_ es (k:Int)).tm) (stepL ys (at_ es (k:Int)))).length cp14),(53,.agg #[I64 (nd),.slice ad9 (stepL ys (at_ es (k:Int))).length cp10]),(56,I64 ((at_ es (k:Int)).tm)),(55,.pointer (some ⟨b3,1,none⟩)),(54,.agg #[I64 (kd),I64 (wd),I64 (mo)]),(52,.pointer (some ⟨b2,0,none⟩)),(51,.pointer (some ⟨b2,0,none⟩)),(50,.pointer (some ⟨b2,0,none⟩)),(49,.pointer (some ⟨b2,0,none⟩)),(48,.bool (decide (kd=3))),(47,I64 (kd)),(46,.pointer (some ⟨b1,0,none⟩)),(45,.tuple #[]),(44,.slice ad8 1 1),(43,.agg #[I64 ((at_ es (k:Int)).kd),I64 ((at_ es (k:Int)).tm),I64 ((at_ es (k:Int)).u),I64 ((at_ es (k:Int)).v),I64 ((at_ es (k:Int)).w),I64 ((at_ es (k:Int)).lb),I64 ((at_ es (k:Int)).sg)]),(42,.pointer (some ⟨b2,0,none⟩)),(5,.pointer (some ⟨b1,0,none⟩)),(10,.pointer (some ⟨b2,0,none⟩)),(12,.pointer (some ⟨b3,0,none⟩)),(28,va),(29,I64 (((es.length:Nat):Int))),(30,I64 ((k:Int)))]:Env) (blk b2 [I64 (nd),.slice ad15 (List.foldl stepL (stepL ys (at_ es (k:Int))) (goneL kd wd mo ((at_ es (k:Int)).tm) (stepL ys (at_ es (k:Int))))).length cp16,.slice ad17 ((zs++[(at_ es (k:Int))])++(goneL kd wd mo ((at_ es (k:Int)).tm) (stepL ys (at_ es (k:Int))))).length cp18] 241::vc 146 (.slice ad15 (List.foldl stepL (stepL ys (at_ es (k:Int))) (goneL kd wd mo ((at_ es (k:Int)).tm) (stepL ys (at_ es (k:Int))))).length cp16) (List.foldl stepL (stepL ys (at_ es (k:Int))) (goneL kd wd mo ((at_ es (k:Int)).tm) (stepL ys (at_ es (k:Int)))))::vc 108 (.slice ad17 ((zs++[(at_ es (k:Int))])++(goneL kd wd mo ((at_ es (k:Int)).tm) (stepL ys (at_ es (k:Int))))).length cp18) ((zs++[(at_ es (k:Int))])++(goneL kd wd mo ((at_ es (k:Int)).tm) (stepL ys (at_ es (k:Int)))))::vc 108 (.slice ad13 (goneL kd wd mo ((at_ es (k:Int)).tm) (stepL ys (at_ es (k:Int)))).length cp14) (goneL kd wd mo ((at_ es (k:Int)).tm) (stepL ys (at_ es (k:Int))))::vc 108 (.slice ad8 1 1) (([⟨(at_ es (k:Int)).kd,(at_ es (k:Int)).tm,(at_ es (k:Int)).u,(at_ es (k:Int)).v,(at_ es (k:Int)).w,(at_ es (k:Int)).lb,(at_ es (k:Int)).sg⟩]:List Ev))::blk b3 [I64 ((at_ es (k:Int)).kd),I64 ((at_ es (k:Int)).tm),I64 ((at_ es (k:Int)).u),I64 ((at_ es (k:Int)).v),I64 ((at_ es (k:Int)).w),I64 ((at_ es (k:Int)).lb),I64 ((at_ es (k:Int)).sg)] 108::blk b1 [I64 (kd),I64 (wd),I64 (mo)] 31::I)
      refine Dz (Aj (Ai (Ar (S5 5 10 28 29 30 rfl rfl rfl rfl rfl) (A2 (Gr (Rad rfl rfl) (Gm rfl (Bh ?_)))))))
      have hgs:=gone_steps (kd:=kd) (wd:=wd) (mo:=mo) (nw:=(at_ es (k:Int)).tm) hI3.val
      have hgl:=gone_len kd wd mo (at_ es (k:Int)).tm (stepL ys (at_ es (k:Int)))
      have hsl:=stepL_len ys (at_ es (k:Int))
      exact B7 ((k+1),(ad15),(cp16),(ad17),(cp18),(List.filter (inW kd wd mo (at_ es (k:Int)).tm (stepL ys (at_ es (k:Int)))) (stepL ys (at_ es (k:Int)))),(zs++[(at_ es (k:Int))]++goneL kd wd mo (at_ es (k:Int)).tm (stepL ys (at_ es (k:Int))))) (by dsimp only;exact ⟨om,(by rw [slideS_succ om,hst];exact evStep_three hag c48),(by rw [lastT_succ];exact hI3.filter _),lap⟩) (hI:=by (try dsimp only);exact (by rw [←hgs];exact Ay))
     ·refine A1 (Aj (Ai (A2 (Gr (Rad rfl rfl) (Gm rfl (Bh ?_))))))
      have hsl:=stepL_len ys (at_ es (k:Int))
      exact B7 ((k+1),(ad9),(cp10),(ad11),(cp12),((stepL ys (at_ es (k:Int)))),(zs++[(at_ es (k:Int))])) (by dsimp only;exact ⟨om,(by rw [slideS_succ om,hst];exact evStep_not hag c48),(by rw [lastT_succ];exact hI3),lap⟩)
   ·refine Bs (Am (Am (A7 (Ai (Ah (Gm rfl (Gr (Ba rfl) (Gf fld241_1 rfl (Gl ty28 ?_)))))))))
    refine Ga rfl (Ga rfl (Af (Az ?_)))
    have hE2:(slideS kd wd mo es)=(xs,out):=by rw [←hst,show List.take k es=es from List.take_of_length_le om]
    have hz:(slideE nd kd wd mo es)=0:=(slideE_st c16).trans (Classical.not_not.1 c22)
    exact Ct rfl rfl rfl (vc 108 (.slice o1 (slideS kd wd mo es).2.length d1) (slideS kd wd mo es).2::I) (by rw [hE2];exact Ay) (.inr ⟨o1,d1,hz,by rw [hE2],rfl⟩)
end Go.Sl
namespace Go.Proofs
def Tryz.sortI_ren:Go.Shelf.Ren:=⟨fun |5=>142|8=>218|7=>217|19=>269|20=>270|10=>260|11=>261|12=>262|13=>263|14=>264|15=>265|16=>266|17=>267|18=>268|30=>304|31=>305|32=>306|33=>307|34=>308|35=>277|40=>326|n=>n,fun |23=>22|25=>3|3=>3|32=>181|22=>22|0=>0|44=>291|46=>175|4=>4|36=>285|35=>284|41=>273|5=>5|9=>9|53=>320|57=>324|63=>346|64=>259|n=>n,fun |n=>n⟩
theorem Tryz.sortI:Go.Proofs.SlLaysM.n5 Tryz.prog Tryz.sortI_ren:={
 mixed:=by kernel_rfl,
 f5:=⟨Tryz.f142.name,by decide,Tryz.func142.trans (congrArg some (by kernel_rfl))⟩,
 f7:=⟨Tryz.f217.name,by decide,Tryz.func217.trans (congrArg some (by kernel_rfl))⟩,
 f8:=Tryz.func218.trans (congrArg some (by kernel_rfl)),
 f10:=⟨Tryz.f260.name,by decide,Tryz.func260.trans (congrArg some (by kernel_rfl))⟩,
 f11:=⟨Tryz.f261.name,by decide,Tryz.func261.trans (congrArg some (by kernel_rfl))⟩,
 f12:=⟨Tryz.f262.name,by decide,Tryz.func262.trans (congrArg some (by kernel_rfl))⟩,
 f13:=⟨Tryz.f263.name,by decide,Tryz.func263.trans (congrArg some (by kernel_rfl))⟩,
 f14:=⟨Tryz.f264.name,by decide,Tryz.func264.trans (congrArg some (by kernel_rfl))⟩,
 f15:=⟨Tryz.f265.name,by decide,Tryz.func265.trans (congrArg some (by kernel_rfl))⟩,
 f16:=⟨Tryz.f266.name,by decide,Tryz.func266.trans (congrArg some (by kernel_rfl))⟩,
 f17:=⟨Tryz.f267.name,by decide,Tryz.func267.trans (congrArg some (by kernel_rfl))⟩,
 f18:=⟨Tryz.f268.name,by decide,Tryz.func268.trans (congrArg some (by kernel_rfl))⟩,
 f19:=Tryz.func269.trans (congrArg some (by kernel_rfl)),
 f20:=Tryz.func270.trans (congrArg some (by kernel_rfl)),
 f30:=⟨Tryz.f304.name,by decide,Tryz.func304.trans (congrArg some (by kernel_rfl))⟩,
 f31:=Tryz.func305.trans (congrArg some (by kernel_rfl)),
 f32:=Tryz.func306.trans (congrArg some (by kernel_rfl)),
 f33:=⟨Tryz.f307.name,by decide,Tryz.func307.trans (congrArg some (by kernel_rfl))⟩,
 f34:=⟨Tryz.f308.name,by decide,Tryz.func308.trans (congrArg some (by kernel_rfl))⟩,
 f35:=⟨Tryz.f277.name,by decide,Tryz.func277.trans (congrArg some (by kernel_rfl))⟩,
 f40:=⟨Tryz.f326.name,by decide,Tryz.func326.trans (congrArg some (by kernel_rfl))⟩,
 t0:=Tryz.underlying0,
 a0:=Tryz.isAgg0,
 z0:=Tryz.sizeOf0,
 v0:=Tryz.zeroValue0,
 t3:=Tryz.underlying3,
 a3:=Tryz.isAgg3,
 z3:=Tryz.sizeOf3,
 v3:=Tryz.zeroValue3,
 t4:=Tryz.underlying4,
 a4:=Tryz.isAgg4,
 z4:=Tryz.sizeOf4,
 v4:=Tryz.zeroValue4,
 t5:=Tryz.underlying5,
 a5:=Tryz.isAgg5,
 z5:=Tryz.sizeOf5,
 v5:=Tryz.zeroValue5,
 t9:=Tryz.underlying9,
 a9:=Tryz.isAgg9,
 z9:=Tryz.sizeOf9,
 v9:=Tryz.zeroValue9,
 t22:=Tryz.underlying22,
 a22:=Tryz.isAgg22,
 z22:=Tryz.sizeOf22,
 v22:=Tryz.zeroValue22,
 t23:=Tryz.underlying22,
 a23:=Tryz.isAgg22,
 z23:=Tryz.sizeOf22,
 v23:=Tryz.zeroValue22,
 t25:=Tryz.underlying3,
 a25:=Tryz.isAgg3,
 z25:=Tryz.sizeOf3,
 v25:=Tryz.zeroValue3,
 t32:=Tryz.underlying181,
 a32:=Tryz.isAgg181,
 z32:=Tryz.sizeOf181,
 v32:=Tryz.zeroValue181,
 t35:=Tryz.underlying284,
 a35:=Tryz.isAgg284,
 z35:=Tryz.sizeOf284,
 v35:=Tryz.zeroValue284,
 t36:=Tryz.underlying285,
 a36:=Tryz.isAgg285,
 z36:=Tryz.sizeOf285,
 v36:=Tryz.zeroValue285,
 t41:=Tryz.underlying273,
 a41:=Tryz.isAgg273,
 z41:=Tryz.sizeOf273,
 v41:=Tryz.zeroValue273,
 t44:=Tryz.underlying291,
 a44:=Tryz.isAgg291,
 z44:=Tryz.sizeOf291,
 v44:=Tryz.zeroValue291,
 t46:=Tryz.underlying175,
 a46:=Tryz.isAgg175,
 z46:=Tryz.sizeOf175,
 v46:=Tryz.zeroValue175,
 t53:=Tryz.underlying320,
 a53:=Tryz.isAgg320,
 z53:=Tryz.sizeOf320,
 v53:=Tryz.zeroValue320,
 t57:=Tryz.underlying324,
 a57:=Tryz.isAgg324,
 z57:=Tryz.sizeOf324,
 v57:=Tryz.zeroValue324,
 t63:=Tryz.underlying346,
 a63:=Tryz.isAgg346,
 z63:=Tryz.sizeOf346,
 v63:=Tryz.zeroValue346,
 t64:=Tryz.underlying259,
 a64:=Tryz.isAgg259,
 z64:=Tryz.sizeOf259,
 v64:=Tryz.zeroValue259}
end Go.Proofs
namespace Go.Sl
open Go.Proofs Go.Shelf Go.RowKit Go.Lib Go.Sort
def sortZ(xs:List Int):List Int:=xs.mergeSort fun x y=>decide (x≤y)
theorem sortZ_perm(xs:List Int):(sortZ xs).Perm xs:=List.mergeSort_perm _ _
theorem sortZ_len(xs:List Int):(sortZ xs).length=xs.length:=(sortZ_perm xs).length_eq
theorem mem_sortZ{xs:List Int}{x:Int}:x∈sortZ xs↔x∈xs:=(sortZ_perm xs).mem_iff
theorem sortZ_asc(xs:List Int):(sortZ xs).Pairwise (· ≤ ·):=by
 have h:=List.pairwise_mergeSort (le:=fun x y:Int=>decide (x≤y)) (fun a b c h1 h2=>by simp at *; omega) (fun a b=>by simp;omega) xs
 exact h.imp fun h=>by simpa using h
theorem sortI_base{P:Program}{ρ:Ren}{κ:Ctx}{I:List Item}(L:SlLaysM.n5 P ρ){e:TypeId}{ad:Option Addr}{c:Nat}{xs:List Int}(hc:0<c)(hsz:xs.length<4611686018427387904) :
  CallS P κ (ρ.f 5) [.slice ad xs.length c] (vc e (.slice ad xs.length c) xs::I) fun r J=>r = .tuple #[]∧J=vc e (.slice ad (sortZ xs).length c) (sortZ xs)::I:=by
 intro w hs
 obtain ⟨hok,_⟩:=hs.ok _ List.mem_cons_self
 obtain ⟨a',cap',hv,hl,hnc,hcm,hcap⟩:=hok
 cases hv
 obtain ⟨b,off,cur,rfl,hb,hsize,hcur⟩:=hcap hc
 have hbw:b<w.heap.size:=(Array.getElem?_eq_some_iff.1 hb).1
 have hlen:=sortZ_len xs
 have hcx:∀ys:List Int,cells ys=ys.map fun x=>I64 x:=fun ys=>by
  induction ys with
  |nil=>rfl
  |cons y ys ih=>show I64 y::cells ys=_;rw [ih];rfl
 have hcl:∀ys:List Int,(cells ys).length=ys.length:=fun ys=>by rw [hcx,List.length_map]
 have hH:Holds (Value.int .i64) w b off xs.toArray:=fun j hj=>by
  have hj':j<xs.length:=by simpa using hj
  have h1:=hcur j (I64 xs[j]) (by rw [hcx,List.getElem?_map,List.getElem?_eq_getElem hj'];rfl)
  refine ⟨?_,by simp [World.frozen?,hb]⟩
  rw [cell_of_row w b (off+j) cur e (0,0) hb,h1]
  simp [getElem!_pos,hj']
 have h:=AnyM.slices_Sort_int L b off c xs w hH hbw hsz
 refine Calls.mono h ?_
 rintro e' w' ⟨rfl,n,os,rfl⟩
 refine ⟨_,_,rfl,⟨rfl,rfl⟩,?_⟩
 have hz:(xs.mergeSort fun x y=>decide (x≤y))=sortZ xs:=rfl
 rw [hz]
 refine hs.upd (At.head _ _ _) rfl ⟨rfl,by simp [putRow,mapBlock,Sort.grow,Sort.ahead]⟩ rfl (by simp [putRow,mapBlock,Sort.grow,Sort.ahead]) (fun k hk hne=>?_) ?_ fun k hk=> .inl ?_
 ·have hkb:k≠b:=fun ekb=>hne (by subst ekb;exact ⟨off,xs.length,c,rfl,hc⟩)
  simp only [Sort.grow,putRow,mapBlock,Sort.ahead]
  rw [Array.getElem?_append_left (by simpa using hk),Array.getElem?_modify,if_neg (fun e=>hkb e.symm)]
 ·refine ⟨_,c,rfl,(hcl _).trans (Nat.mul_one _).symm,by rw [hlen];exact hnc,hcm,fun _=>⟨b,off,putCells (Value.int .i64) off (sortZ xs).toArray cur,rfl,?_,?_,fun j u hj=>?_⟩⟩
  ·simp only [Sort.grow,putRow,mapBlock,Sort.ahead]
   rw [Array.getElem?_append_left (by simpa using hbw),Array.getElem?_modify,if_pos rfl]
   show (w.heap[b]?).map _=_
   rw [hb];rfl
  ·simpa [putCells] using hsize
  ·have hj':j<(sortZ xs).length:=by rw [←hcl];exact (List.getElem?_eq_some_iff.1 hj).1
   have hoff:off+j<cur.size:=by
    have:=hsize;rw [hlen] at hj'
    have:c*Enc.sz Int=c:=Nat.mul_one c
    omega
   simp only [putCells,Array.getElem?_mapIdx,Array.getElem?_eq_getElem hoff,Option.map_some]
   rw [if_pos ⟨by omega,by simpa using hj'⟩,Nat.add_sub_cancel_left]
   rw [hcx,List.getElem?_map,List.getElem?_eq_getElem hj'] at hj
   simpa [getElem!_pos,hj'] using hj
 ·obtain ⟨o',n',c',hv',hc'⟩:=hk
  cases hv'
  exact ⟨off,xs.length,c,rfl,hc⟩
theorem sortI_any{P:Program}{ρ:Ren}{κ:Ctx}{I:List Item}(L:SlLaysM.n5 P ρ){e:TypeId}{ad:Option Addr}{c:Nat}{xs:List Int}(hsz:xs.length<4611686018427387904) :
  CallS P κ (ρ.f 5) [.slice ad xs.length c] (vc e (.slice ad xs.length c) xs::I) fun r J=>r = .tuple #[]∧J=vc e (.slice ad (sortZ xs).length c) (sortZ xs)::I:=by
 by_cases hc:0<c
 ·exact sortI_base L hc hsz
 ·intro w hs
  obtain ⟨hok,_⟩:=hs.ok _ List.mem_cons_self
  obtain ⟨a',cap',hv,hl,hnc,hcm,hcap⟩:=hok
  cases hv
  obtain rfl:xs=[]:=List.eq_nil_of_length_eq_zero (by omega)
  refine Calls.mono (AnyM.slices_Sort_int_none L ad c w) ?_
  rintro e' w' ⟨rfl,rfl⟩
  have hz:sortZ []=[]:=List.eq_nil_of_length_eq_zero (sortZ_len [])
  refine ⟨_,_,rfl,⟨rfl,rfl⟩,?_⟩
  rw [hz];exact hs
end Go.Sl
