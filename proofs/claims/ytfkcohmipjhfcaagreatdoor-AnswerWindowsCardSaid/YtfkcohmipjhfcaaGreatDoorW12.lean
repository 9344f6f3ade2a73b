/- A part of the proofs of statements of this seat: contracts of functions, and the plain laws that they lean on. No conditions. -/
import Derived.Test.YtfkcohmipjhfcaaGreatDoorW11
set_option linter.unusedVariables false
set_option linter.unusedSimpArgs false
set_option linter.unusedSectionVars false
open List (replicate)
namespace Go.Sl
open Go.Proofs
set_option maxRecDepth 4000
theorem PushR.sink{n:Net}{rs:List (List Int)}{L f nx:List Int}{v:Int}(e:v=n.sink)(hl:f.length=n.arcs.length)(hc:CapF n f)(hd:Dead n rs L f nx)(hx:∀z:Int,0<=z->z<n.nodes->0<=e_ nx z)(d:Int):PushR n rs L v d f nx f nx:=
 ⟨hl,hc,λz=>by rw [e];omega,Less.refl _ _ _,λ_ _ _=>rfl,hd,rfl,hx,λ_ _ _ _ _=>rfl,λ_=>rfl⟩
def PushC(κ:Ctx)(I:List Item)(n:Net)(rs:List Row)(b:Nat)(hw ow lw nw:Value)(L:List Int)(lv:Int):Prop:=
 ∀(v most:Int) (f nx:List Int) (hs:List Half),e_ L v=lv->0<=v->v<n.nodes->0<=e_ L v->1<=most->most<=4611686018427387904->HOk n f hs->Dead n (rowsL rs) L f nx->(∀z:Int,0<=z->z<n.nodes->0<=e_ nx z)->((nx.length:Nat):Int)=n.nodes->eu Tryz.prog κ 342 [.pointer (some ⟨b,0,none⟩),e7 v,e7 most] (e8 b [hw,ow,lw,nw,e7 (n.sink)] 339::vc 336 hw (hs)::vc 3 lw (L)::vc 3 nw (nx)::I) (λr J=>∃(d:Int) (f':List Int) (hs':List Half) (nx':List Int),r=e7 d/\((0<=d/\d<=most)/\PushR n (rowsL rs) L v d f nx f' nx'/\HOk n f' hs'/\(d<most->¬Adm n f' L v))/\J=e8 b [hw,ow,lw,nw,e7 (n.sink)] 339::vc 336 hw (hs')::vc 3 lw (L)::vc 3 nw (nx')::I)
theorem Push_step{κ:Ctx}{I:List Item}{n:Net}{f:List Int}{hs:List Half}{rs:List Row}{b:Nat}{hw ow lw nw:Value}{L nx:List Int}{v most lv:Int}(hok:n.Ok)(hr:ROk n (rowsL rs))(ho:Sl κ I ow rs)(hrow:∀i:Int,0<=i->i<rs.length->Sl κ I (.slice (e_ rs i).a (e_ rs i).xs.length (e_ rs i).c) (e_ rs i).xs)(hL:(L.length:Int)=n.nodes)(hlow:∀z:Int,0<=z->z<n.nodes-> -1<=e_ L z/\e_ L z<n.nodes)(ih:PushC κ I n rs b hw ow lw nw L (lv+1))(hlv:e_ L v=lv)(hv0:0<=v)(hv1:v<n.nodes)(hLv:0<=e_ L v)(hm0:1<=most)(hm1:most<=4611686018427387904)(hh:HOk n f hs)(hD:Dead n (rowsL rs) L f nx)(hx:∀z:Int,0<=z->z<n.nodes->0<=e_ nx z)(hN:((nx.length:Nat):Int)=n.nodes):eu Tryz.prog κ 342 [.pointer (some ⟨b,0,none⟩),e7 v,e7 most] (e8 b [hw,ow,lw,nw,e7 (n.sink)] 339::vc 336 hw (hs)::vc 3 lw (L)::vc 3 nw (nx)::I) (λr J=>∃(d:Int) (f':List Int) (hs':List Half) (nx':List Int),r=e7 d/\((0<=d/\d<=most)/\PushR n (rowsL rs) L v d f nx f' nx'/\HOk n f' hs'/\(d<most->¬Adm n f' L v))/\J=e8 b [hw,ow,lw,nw,e7 (n.sink)] 339::vc 336 hw (hs')::vc 3 lw (L)::vc 3 nw (nx')::I):=by
 have hlim:=hok.lim
 have hsrc:=hok.src
 have hsnk:=hok.snk
 have hrl:=hr.rl
 have hLw:=(hlow v hv0 hv1).2
 refine Cg (λw hs=>(Ce (hrow v om om) (by repeat (first|exact Fk _|apply Fit.tail|exact Fit.appR _ _|apply Fit.appL))).le w hs) λhrm=>?_
 refine Ce3 Tryz.func342 C C ?_
 refine Aj (Ga C (Ah (Au (Aj (Gm C (Gm C (Gr (Br C) (Gf fld339_4 C (Gl ef ?_)))))))))
 refine Gr (Bl C C) (Ah (Bd C (λc16=>?_) (λc16=>?_)))
 ·exact Aj (Gm C (Ga C (Ah (Az (Ar (Ba C C (e8 b [hw,ow,lw,nw,e7 (n.sink)] 339::vc 336 hw (hs)::vc 3 lw (L)::vc 3 nw (nx)::I) A5 ⟨most,f,hs,nx,rfl,⟨⟨by omega,by omega⟩,PushR.sink c16 hh.flen hh.cap hD hx most,hh,λh=>by omega⟩,rfl⟩))))))
 ·refine A4 (Ai (Aj (Ga C (Ah (Au (A6 (Ca (σ:=Int×(List Int)×(List Half)×(List Int)) (λs=>([(0,.pointer (some ⟨b,0,none⟩)),(1,e7 v),(2,e7 most),(7,e7 (s.1))]:Env)) (λs=>e8 b [hw,ow,lw,nw,e7 (n.sink)] 339::vc 336 hw (s.2.2.1)::vc 3 lw (L)::vc 3 nw (s.2.2.2)::I) (λs=>(0<=s.1)/\(s.1<=most)/\(PushR n (rowsL rs) L v s.1 f nx s.2.1 s.2.2.2)/\(HOk n s.2.1 s.2.2.1)) (λs=>((e_ rs v).xs.length - e_ s.2.2.2 v).toNat) (0,f,hs,nx) ⟨om,om,(PushR.start hh.flen hh.cap hD hx v),hh⟩ (Aa C (Aa C (Aa C (Aa Cr Bq)))) A5 ?_)))))))
  rintro ⟨sent,f1,hs1,nx1⟩ hp
  dsimp only at hp ⊢
  obtain ⟨hs0,hs9,hP,hH1⟩:=hp
  have hnl:=hP.nlen
  have hnx0:=hP.nge v hv0 hv1
  have hhl:=hH1.len
  refine Au (Au (Bt mixed (C7 21 (Dr 0 C (Af C) (Dr 1 C (Br C) (Dr 2 C (Ab fld339_3 C) (Dr 3 C (As ty22) ?_)))))))
  refine Dr 4 C (Af C) (Dr 5 C (A2 (α:=Int) (xs:=nx1) Ad ef C C Bk om om) (Dr 6 C (B3 (xs:=nx1) ef C Bk om om) (Dr 7 C (Af C) (Dr 8 C (Br C) (Dr 9 C (Ab fld339_1 C) (Dr 10 C (As ty79) ?_))))))
  refine Dr 11 C (Af C) (Dr 12 C (A2 (α:=Row) (xs:=rs) B5 ty22 C C (Bj ho) om om) (Dr 13 C (Ct (α:=Row) (xs:=rs) (u:= .slice (e_ rs v).a (e_ rs v).xs.length (e_ rs v).c) ty22 C (Bj ho) om om C) (Dr 14 C (Bz Ad C) (Dr 15 C (Bi C C) (Dr 16 C (Af C) (D4 (d:=34) C (λg34=>?_) (λg34=>?_)))))))
  ·refine Dro 17 C (Af C) (Dro 18 C (Af C) (Dro 19 C (Bi C C) (Dr 20 C (Ap C C) (Dz (Ai (Av (S5 38 0 1 2 7 C C C C C) (Bd C (λc38=>?_) (λc38=>?_))))))))
   ·refine A4 (Ai (Fe (σ:=Int×(List Int)×(List Half)×(List Int)) (λs=>([(0,.pointer (some ⟨b,0,none⟩)),(1,e7 v),(2,e7 most),(7,e7 (s.1))]:Env)) (λs=>e8 b [hw,ow,lw,nw,e7 (n.sink)] 339::vc 336 hw (s.2.2.1)::vc 3 lw (L)::vc 3 nw (s.2.2.2)::I) (λs=>(0<=s.1/\s.1<=most)/\(PushR n (rowsL rs) L v s.1 f nx s.2.1 s.2.2.2)/\(HOk n s.2.1 s.2.2.1)/\(e_ s.2.2.2 v=e_ nx1 v)/\(¬(0<leftH n s.2.1 (e_ (e_ rs v).xs (e_ s.2.2.2 v))/\e_ L (toH n (e_ (e_ rs v).xs (e_ s.2.2.2 v)))=e_ L v+1/\Adm n s.2.1 L (toH n (e_ (e_ rs v).xs (e_ s.2.2.2 v)))))) ?_ ?_))
    ·refine A6 (Au (Bt mixed (C7 17 (Dr 0 C (Af C) (Dr 1 C (Br C) (Dr 2 C (Ab fld339_1 C) (Dr 3 C (As ty79) ?_)))))))
     refine Dr 4 C (Af C) (Dr 5 C (A2 (α:=Row) (xs:=rs) B5 ty22 C C (Bj ho) om om) (Dr 6 C (Ct (α:=Row) (xs:=rs) (u:= .slice (e_ rs v).a (e_ rs v).xs.length (e_ rs v).c) ty22 C (Bj ho) om om C) (Dr 7 C (Af C) (Dr 8 C (Br C) (Dr 9 C (Ab fld339_3 C) (Dr 10 C (As ty22) ?_))))))
     refine Dr 11 C (Af C) (Dr 12 C (A2 (α:=Int) (xs:=nx1) Ad ef C C Bk om om) ?_)
     have hm:=hr.row hv0 hv1 (j:=e_ nx1 v) om om
     have hg:=hH1.get _ hm.1
     have hfo:=from_ok hok hm.1
     have hi2:0<=(e_ (e_ rs v).xs (e_ nx1 v))/\(e_ (e_ rs v).xs (e_ nx1 v))<2*n.arcs.length:=hm.1
     have hlk:=left_ok hH1.cap hm.1
     have hak:=(arc_ok hok hm.1.half.1 hm.1.half.2).2.2.2
     have hd:e_ L (e_ hs1 (e_ (e_ rs v).xs (e_ nx1 v))).dst=e_ L (toH n (e_ (e_ rs v).xs (e_ nx1 v))):=by rw [hg.2.1]
     refine Dr 13 C (B3 (xs:=nx1) ef C Bk om om) (Dr 14 C (A2 (α:=Int) (xs:=(e_ rs v).xs) Ad ef C C (Ce (hrow v om om) Ay) om om) (Dr 15 C (B3 (xs:=(e_ rs v).xs) ef C (Ce (hrow v om om) Ay) om om) (Dr 16 C (Bb C) (Dz (Ai (Av (S5 8 0 1 2 7 C C C C C) (Aj (Gm C (Gr (Br C) (Gf fld339_0 C (Gl ty337 ?_)))))))))))
     refine Gm C (Gr (A2 (α:=Half) (xs:=hs1) Co ty336 C C Bk om om) (Gr (B7 (α:=Half) (xs:=hs1) ty336 C Bk om om) (Ge1 (A9 ty336 C) λb1=>Ge0 (Es4_4 ty336) ?_)))
     refine Ah (Au (Au (Bt mixed (C7 23 (Dr 0 C (Ab fld336_1 C) (Dr 1 C (As ef) ?_))))))
     refine Dr 2 C (Bl C C) (Dr 3 C (Af C) (D4 (d:=74) C (λg74=>?_) (λg74=>?_)))
     ·exact Dpo 4 C (Dpo 5 C (Dpo 6 C (Dpo 7 C (Dpo 8 C (Dpo 9 C (Dpo 10 C (Dpo 11 C (Dpo 12 C (Dpo 13 C (Dpo 14 C (Dpo 15 C (Dpo 16 C (Dpo 17 C (Dpo 18 C (Dpo 19 C (Dpo 20 C (Dpo 21 C (Dr 22 C (Ap C C) (Dz (Ai (Av (S7 93 9 8 0 1 2 7 C C C C C C C) (Do C (Bp (Ac (Aw (Cp ((sent),(f1),(hs1),(nx1)) (by dsimp only;exact ⟨om,(by first|exact hP|exact hput.1),(by first|exact hH1|exact hHp),(by first|rfl|exact hput.2.1),(by first|(rintro ⟨a,b,c⟩;omega)|(rw [hput.2.1];have hused2:=hused c135;rw [hm.2] at hused2;exact hused2))⟩)))))))))))))))))))))))))))
     ·refine Dro 4 C (Af C) (Dro 5 C (Br C) (Dro 6 C (Ab fld339_2 C) (Dro 7 C (As ty22) ?_)))
      refine Dro 8 C (Ab fld336_0 C) (Dro 9 C (Ab fld305_1 C) (Dro 10 C (As ef) ?_))
      refine Dro 11 C (A2 (α:=Int) (xs:=L) Ad ef C C Bk om om) (Dro 12 C (B3 (xs:=L) ef C Bk om om) (Dro 13 C (Af C) (Dro 14 C (Br C) (Dro 15 C (Ab fld339_2 C) (Dro 16 C (As ty22) ?_)))))
      refine Dro 17 C (Af C) (Dro 18 C (A2 (α:=Int) (xs:=L) Ad ef C C Bk om om) (Dro 19 C (B3 (xs:=L) ef C Bk om om) (Dro 20 C (Rad C C) (Dro 21 C (Bx C C) (Dr 22 C (Al C C) (Dz (Ai (Av (S7 93 9 8 0 1 2 7 C C C C C C C) (Bd C (λc93=>?_) (λc93=>?_))))))))))
      ·exact Bp (Ac (Aw (Cp ((sent),(f1),(hs1),(nx1)) (by dsimp only;exact ⟨om,(by first|exact hP|exact hput.1),(by first|exact hH1|exact hHp),(by first|rfl|exact hput.2.1),(by first|(rintro ⟨a,b,c⟩;omega)|(rw [hput.2.1];have hused2:=hused c135;rw [hm.2] at hused2;exact hused2))⟩))))
      ·refine A4 (Ai (Aj (Gm C (Gf fld336_0 C (Gf fld305_1 C (Gl ef ?_))))))
       refine Gm C (Gm C (Gr (Rsu C C) (Gf fld336_1 C (Gl ef ?_))))
       refine Gr (E9 C C) (G.e (Am call342 C C (C1 (J:=e8 b [hw,ow,lw,nw,e7 (n.sink)] 339::vc 336 hw (hs1)::vc 3 lw (L)::vc 3 nw (nx1)::I) A5 (ih (e_ hs1 (e_ (e_ rs v).xs (e_ nx1 v))).dst (if ((e_ hs1 (e_ ((e_ rs v).xs) (e_ nx1 v))).left)<(most - sent) then ((e_ hs1 (e_ ((e_ rs v).xs) (e_ nx1 v))).left) else (most - sent)) f1 nx1 hs1 om om om om (by split<;>omega) (by split<;>omega) hH1 hP.dead hP.nge om))) ?_)
       rintro _ _ ⟨_,_,⟨d2,f3,hs4,nx5,rfl,⟨hbd2,hPd2,hHd2,hAd2⟩,rfl⟩,rfl,rfl⟩
       rw [hg.2.1] at hPd2 hAd2
       have hL1:e_ L (toH n (e_ (e_ rs v).xs (e_ nx1 v)))=e_ L v+1:=by omega
       have hle:d2<=(if (e_ hs1 (e_ (e_ rs v).xs (e_ nx1 v))).left<most - sent then (e_ hs1 (e_ (e_ rs v).xs (e_ nx1 v))).left else most - sent):=hbd2.2
       have hle2:d2<=(e_ hs1 (e_ (e_ rs v).xs (e_ nx1 v))).left/\d2<=most - sent:=by revert hle;split<;>omega
       have hput:=hP.put hok hr hm.1 hm.2 hL1 hs0 hbd2.1 om hPd2
       have hg2:=hHd2.get _ hm.1
       have hg3:=hHd2.get _ hm.1.mate
       have hls:=left_sum n f3 (e_ (e_ rs v).xs (e_ nx1 v))
       have hhl2:=hHd2.len
       have hlk2:=left_ok hHd2.cap hm.1
       have hlk3:=left_ok hHd2.cap hm.1.mate
       have hmi:0<=mateH (e_ (e_ rs v).xs (e_ nx1 v))/\mateH (e_ (e_ rs v).xs (e_ nx1 v))<2*n.arcs.length:=hm.1.mate
       have hmh:=mate_half (e_ (e_ rs v).xs (e_ nx1 v))
       rw [hmh] at hlk3
       have hused:=fun (hne:¬sent+d2=most)=>PushR.used (e:=d2) (m:=(if (e_ hs1 (e_ (e_ rs v).xs (e_ nx1 v))).left<most - sent then (e_ hs1 (e_ (e_ rs v).xs (e_ nx1 v))).left else most - sent)) hm.1 (Decidable.byCases (λh:d2<(if (e_ hs1 (e_ (e_ rs v).xs (e_ nx1 v))).left<most - sent then (e_ hs1 (e_ (e_ rs v).xs (e_ nx1 v))).left else most - sent)=> .inl h) (λh=> .inr (by have hls2:=hput.2.2;revert h;split<;>omega))) (λh=>hAd2 h) hPd2.len hbd2.1 (by rw [hm.2];exact hL1)
       refine Ga C (Ah (Av (S6 10 8 0 1 2 7 C C C C C C) (Aj (Gm C (Gr (Br C) (Gf fld339_0 C (Gl ty337 ?_)))))))
       refine Gm C (Gr (A2 (α:=Half) (xs:=hs4) Co ty336 C C Bk om om) (Gr (Es (α:=Half) (xs:=hs4) fld336_1 C Bk om) (Gr (E3 (α:=Half) (xs:=hs4) (u:=e7 ((e_ hs4 (e_ ((e_ rs v).xs) (e_ nx1 v))).left)) ef C Bk om om C) (Gm C (Gr (Rsu C C) (Gr (A2 (α:=Half) (xs:=hs4) Co ty336 C C Bk om om) (Gr (Es (α:=Half) (xs:=hs4) fld336_1 C Bk om) (Ge0 (Eff.setf (α:=Half) (xs:=hs4) (e:=336) (new:={e_ hs4 (e_ ((e_ rs v).xs) (e_ nx1 v)) with left:=((e_ hs4 (e_ ((e_ rs v).xs) (e_ nx1 v))).left) - d2}) (j:=3) ef C C C C dc C om om am) ?_))))))))
       have hmt:e_ (List.set hs4 (e_ ((e_ rs v).xs) (e_ nx1 v)).toNat ({e_ hs4 (e_ ((e_ rs v).xs) (e_ nx1 v)) with left:=((e_ hs4 (e_ ((e_ rs v).xs) (e_ nx1 v))).left) - d2})) (mateH (e_ (e_ rs v).xs (e_ nx1 v)))=e_ hs4 (mateH (e_ (e_ rs v).xs (e_ nx1 v))):=by rw [Dh hs4 _ _ _ om om om,if_neg (λe=>mate_ne _ e.symm)]
       have hmt1:(e_ (List.set hs4 (e_ ((e_ rs v).xs) (e_ nx1 v)).toNat ({e_ hs4 (e_ ((e_ rs v).xs) (e_ nx1 v)) with left:=((e_ hs4 (e_ ((e_ rs v).xs) (e_ nx1 v))).left) - d2})) (mateH (e_ (e_ rs v).xs (e_ nx1 v)))).left=leftH n f3 (mateH (e_ (e_ rs v).xs (e_ nx1 v))):=by rw [hmt];exact hg3.2.2
       have hsl:(List.set hs4 (e_ ((e_ rs v).xs) (e_ nx1 v)).toNat ({e_ hs4 (e_ ((e_ rs v).xs) (e_ nx1 v)) with left:=((e_ hs4 (e_ ((e_ rs v).xs) (e_ nx1 v))).left) - d2})).length=hs4.length:=List.length_set
       refine Ah (Av (S6 10 8 0 1 2 7 C C C C C C) (Aj (Gm C (Gr (Br C) (Gf fld339_0 C (Gl ty337 ?_))))))
       refine Gm C (Gr ((xor_mate (i:=e_ ((e_ rs v).xs) (e_ nx1 v)) om om)▸Runs.xorw C C) (Gr (A2 (α:=Half) (xs:=List.set hs4 (e_ ((e_ rs v).xs) (e_ nx1 v)).toNat ({e_ hs4 (e_ ((e_ rs v).xs) (e_ nx1 v)) with left:=((e_ hs4 (e_ ((e_ rs v).xs) (e_ nx1 v))).left) - d2})) Co ty336 C C Bk om om) (Gr (Es (α:=Half) (xs:=List.set hs4 (e_ ((e_ rs v).xs) (e_ nx1 v)).toNat ({e_ hs4 (e_ ((e_ rs v).xs) (e_ nx1 v)) with left:=((e_ hs4 (e_ ((e_ rs v).xs) (e_ nx1 v))).left) - d2})) fld336_1 C Bk om) (Gr (E3 (α:=Half) (xs:=List.set hs4 (e_ ((e_ rs v).xs) (e_ nx1 v)).toNat ({e_ hs4 (e_ ((e_ rs v).xs) (e_ nx1 v)) with left:=((e_ hs4 (e_ ((e_ rs v).xs) (e_ nx1 v))).left) - d2})) (u:=e7 ((e_ (List.set hs4 (e_ ((e_ rs v).xs) (e_ nx1 v)).toNat ({e_ hs4 (e_ ((e_ rs v).xs) (e_ nx1 v)) with left:=((e_ hs4 (e_ ((e_ rs v).xs) (e_ nx1 v))).left) - d2})) (mateH (e_ ((e_ rs v).xs) (e_ nx1 v)))).left)) ef C Bk om om C) (Gm C (Gr (Rad C C) (Gr (A2 (α:=Half) (xs:=List.set hs4 (e_ ((e_ rs v).xs) (e_ nx1 v)).toNat ({e_ hs4 (e_ ((e_ rs v).xs) (e_ nx1 v)) with left:=((e_ hs4 (e_ ((e_ rs v).xs) (e_ nx1 v))).left) - d2})) Co ty336 C C Bk om om) (Gr (Es (α:=Half) (xs:=List.set hs4 (e_ ((e_ rs v).xs) (e_ nx1 v)).toNat ({e_ hs4 (e_ ((e_ rs v).xs) (e_ nx1 v)) with left:=((e_ hs4 (e_ ((e_ rs v).xs) (e_ nx1 v))).left) - d2})) fld336_1 C Bk om) (Ge0 (Eff.setf (α:=Half) (xs:=List.set hs4 (e_ ((e_ rs v).xs) (e_ nx1 v)).toNat ({e_ hs4 (e_ ((e_ rs v).xs) (e_ nx1 v)) with left:=((e_ hs4 (e_ ((e_ rs v).xs) (e_ nx1 v))).left) - d2})) (e:=336) (new:={e_ (List.set hs4 (e_ ((e_ rs v).xs) (e_ nx1 v)).toNat ({e_ hs4 (e_ ((e_ rs v).xs) (e_ nx1 v)) with left:=((e_ hs4 (e_ ((e_ rs v).xs) (e_ nx1 v))).left) - d2})) (mateH (e_ ((e_ rs v).xs) (e_ nx1 v))) with left:=((e_ (List.set hs4 (e_ ((e_ rs v).xs) (e_ nx1 v)).toNat ({e_ hs4 (e_ ((e_ rs v).xs) (e_ nx1 v)) with left:=((e_ hs4 (e_ ((e_ rs v).xs) (e_ nx1 v))).left) - d2})) (mateH (e_ ((e_ rs v).xs) (e_ nx1 v)))).left)+d2}) (j:=3) ef C C C C dc C om om am) ?_)))))))))
       have hHp:HOk n (pushF f3 (e_ (e_ rs v).xs (e_ nx1 v)) d2) (List.set (List.set hs4 (e_ ((e_ rs v).xs) (e_ nx1 v)).toNat ({e_ hs4 (e_ ((e_ rs v).xs) (e_ nx1 v)) with left:=((e_ hs4 (e_ ((e_ rs v).xs) (e_ nx1 v))).left) - d2})) (mateH (e_ ((e_ rs v).xs) (e_ nx1 v))).toNat ({e_ (List.set hs4 (e_ ((e_ rs v).xs) (e_ nx1 v)).toNat ({e_ hs4 (e_ ((e_ rs v).xs) (e_ nx1 v)) with left:=((e_ hs4 (e_ ((e_ rs v).xs) (e_ nx1 v))).left) - d2})) (mateH (e_ ((e_ rs v).xs) (e_ nx1 v))) with left:=((e_ (List.set hs4 (e_ ((e_ rs v).xs) (e_ nx1 v)).toNat ({e_ hs4 (e_ ((e_ rs v).xs) (e_ nx1 v)) with left:=((e_ hs4 (e_ ((e_ rs v).xs) (e_ nx1 v))).left) - d2})) (mateH (e_ ((e_ rs v).xs) (e_ nx1 v)))).left)+d2})):=hHd2.push hm.1 hbd2.1 om
       refine Ah (Av (S5 10 0 1 2 7 C C C C C) (Aj (Gm C (Gm C (Gr (Rad C C) (Ga C (Ah (Aj (Gm C (Gm C (Gr (Bl C C) (Ah (Bd C (λc135=>?_) (λc135=>?_))))))))))))))
       ·exact Aj (Gm C (Ga C (Ah (Av (S1 6 C) (Az (A3 (Ar (Ar (A3 (Ar (Ba C C (e8 b [hw,ow,lw,nw,e7 (n.sink)] 339::vc 336 hw (List.set (List.set hs4 (e_ ((e_ rs v).xs) (e_ nx1 v)).toNat ({e_ hs4 (e_ ((e_ rs v).xs) (e_ nx1 v)) with left:=((e_ hs4 (e_ ((e_ rs v).xs) (e_ nx1 v))).left) - d2})) (mateH (e_ ((e_ rs v).xs) (e_ nx1 v))).toNat ({e_ (List.set hs4 (e_ ((e_ rs v).xs) (e_ nx1 v)).toNat ({e_ hs4 (e_ ((e_ rs v).xs) (e_ nx1 v)) with left:=((e_ hs4 (e_ ((e_ rs v).xs) (e_ nx1 v))).left) - d2})) (mateH (e_ ((e_ rs v).xs) (e_ nx1 v))) with left:=((e_ (List.set hs4 (e_ ((e_ rs v).xs) (e_ nx1 v)).toNat ({e_ hs4 (e_ ((e_ rs v).xs) (e_ nx1 v)) with left:=((e_ hs4 (e_ ((e_ rs v).xs) (e_ nx1 v))).left) - d2})) (mateH (e_ ((e_ rs v).xs) (e_ nx1 v)))).left)+d2}))::vc 3 lw (L)::vc 3 nw (nx5)::I) A5 ⟨_,_,_,_,rfl,⟨⟨by omega,by omega⟩,hput.1,hHp,λh=>by omega⟩,rfl⟩)))))))))))
       ·exact A4 (Ak (Cp ((sent+d2),(pushF f3 (e_ (e_ rs v).xs (e_ nx1 v)) d2),(List.set (List.set hs4 (e_ ((e_ rs v).xs) (e_ nx1 v)).toNat ({e_ hs4 (e_ ((e_ rs v).xs) (e_ nx1 v)) with left:=((e_ hs4 (e_ ((e_ rs v).xs) (e_ nx1 v))).left) - d2})) (mateH (e_ ((e_ rs v).xs) (e_ nx1 v))).toNat ({e_ (List.set hs4 (e_ ((e_ rs v).xs) (e_ nx1 v)).toNat ({e_ hs4 (e_ ((e_ rs v).xs) (e_ nx1 v)) with left:=((e_ hs4 (e_ ((e_ rs v).xs) (e_ nx1 v))).left) - d2})) (mateH (e_ ((e_ rs v).xs) (e_ nx1 v))) with left:=((e_ (List.set hs4 (e_ ((e_ rs v).xs) (e_ nx1 v)).toNat ({e_ hs4 (e_ ((e_ rs v).xs) (e_ nx1 v)) with left:=((e_ hs4 (e_ ((e_ rs v).xs) (e_ nx1 v))).left) - d2})) (mateH (e_ ((e_ rs v).xs) (e_ nx1 v)))).left)+d2})),(nx5)) (by dsimp only;exact ⟨om,(by first|exact hP|exact hput.1),(by first|exact hH1|exact hHp),(by first|rfl|exact hput.2.1),(by first|(rintro ⟨a,b,c⟩;omega)|(rw [hput.2.1];have hused2:=hused c135;rw [hm.2] at hused2;exact hused2))⟩)))
    ·rintro ⟨sent2,f2,hs2,nx2⟩ hp
     obtain ⟨hs20,hP2,hH2,hnx2,hD2⟩:(0<=sent2/\sent2<=most)/\(PushR n (rowsL rs) L v sent2 f nx f2 nx2)/\(HOk n f2 hs2)/\(e_ nx2 v=e_ nx1 v)/\(¬(0<leftH n f2 (e_ (e_ rs v).xs (e_ nx2 v))/\e_ L (toH n (e_ (e_ rs v).xs (e_ nx2 v)))=e_ L v+1/\Adm n f2 L (toH n (e_ (e_ rs v).xs (e_ nx2 v))))):=hp
     refine A0 (Gm C ?_)
     have hnl2:=hP2.nlen
     have hnx20:=hP2.nge v hv0 hv1
     refine Gr (Br C) (Gf fld339_3 C (Gl ty22 ?_))
     refine Gm C (Gr (A2 (α:=Int) (xs:=nx2) Ad ef C C Bk om om) (Gr (B3 (xs:=nx2) ef C Bk om om) (Gr (Rad C C) (Gr (A2 (α:=Int) (xs:=nx2) Ad ef C C Bk om om) (Ge0 (Cy (α:=Int) (xs:=nx2) (e:=3) (new:=(e_ nx2 v)+1) ef C C C om om am) ?_)))))
     exact Bf (Ch ((sent2),(f2),(hs2),(List.set nx2 (v).toNat ((e_ nx2 v)+1))) (by dsimp only;exact ⟨om,om,(hP2.adv om (by rw [rowsL_at];exact hD2) hv1),hH2⟩) (hlt:=by (try dsimp only);exact (by rw [Dh nx2 v v _ hv0 hv0 om,if_pos rfl];omega)))
   ·exact Bp (Ac (Ac (Aw (Ai (Aj (Gm C (Ga C (Ah (Az (Ba C C (e8 b [hw,ow,lw,nw,e7 (n.sink)] 339::vc 336 hw (hs1)::vc 3 lw (L)::vc 3 nw (nx1)::I) A5 ⟨_,_,_,_,rfl,⟨⟨hs0,hs9⟩,hP,hH1,λh=>by first|omega|exact Dead.not hr hP.dead ⟨hv0,hv1⟩ c16 (by rw [rowsL_at];omega)⟩,rfl⟩))))))))))
  ·exact Dpo 17 C (Dpo 18 C (Dpo 19 C (Dr 20 C (Al C C) (Dz (Ai (Av (S5 38 0 1 2 7 C C C C C) (Eo C (Bp (Ac (Ac (Aw (Ai (Aj (Gm C (Ga C (Ah (Az (Ba C C (e8 b [hw,ow,lw,nw,e7 (n.sink)] 339::vc 336 hw (hs1)::vc 3 lw (L)::vc 3 nw (nx1)::I) A5 ⟨_,_,_,_,rfl,⟨⟨hs0,hs9⟩,hP,hH1,λh=>by first|omega|exact Dead.not hr hP.dead ⟨hv0,hv1⟩ c16 (by rw [rowsL_at];omega)⟩,rfl⟩))))))))))))))))))
variable {κ:Ctx}{I:List Item}
theorem Push_ok{n:Net}{rs:List Row}{b:Nat}{hw ow lw nw:Value}{L:List Int}(hok:n.Ok)(hr:ROk n (rowsL rs))(ho:Sl κ I ow rs)(hrow:∀i:Int,0<=i->i<rs.length->Sl κ I (.slice (e_ rs i).a (e_ rs i).xs.length (e_ rs i).c) (e_ rs i).xs)(hL:(L.length:Int)=n.nodes)(hlow:∀z:Int,0<=z->z<n.nodes-> -1<=e_ L z/\e_ L z<n.nodes):∀(d:Nat) (lv:Int),n.nodes - lv<=d->PushC κ I n rs b hw ow lw nw L lv:=by
 intro d
 induction d with
 |zero=>
  intro lv hd v most f nx hs hlv h0 h1
  have:=(hlow v h0 h1).2
  omega
 |succ d ih=>
  intro lv hd v most f nx hs hlv h0 h1 h2 h3 h4 h5 h6 h7 h8
  exact Push_step hok hr ho hrow hL hlow (ih (lv+1) om) hlv h0 h1 h2 h3 h4 h5 h6 h7 h8
theorem Greatest_ok{n:Net}{f:List Int}{hs:List Half}{rs:List Row}{b:Nat}{hw ow lw nw:Value}{L nx:List Int}(hok:n.Ok)(hh:HOk n f hs)(hr:ROk n (rowsL rs))(ho:Sl κ I ow rs)(hrow:∀i:Int,0<=i->i<rs.length->Sl κ I (.slice (e_ rs i).a (e_ rs i).xs.length (e_ rs i).c) (e_ rs i).xs)(hL:(L.length:Int)=n.nodes)(hN:(nx.length:Int)=n.nodes)(hf:IsFlow n f)(hv0:netF n f n.source=0):eu Tryz.prog κ 336 [.pointer (some ⟨b,0,none⟩),e7 (n.source)] (e8 b [hw,ow,lw,nw,e7 (n.sink)] 339::vc 336 hw (hs)::vc 3 lw (L)::vc 3 nw (nx)::I) (λr J=>∃(val:Int) (f':List Int) (hs':List Half) (L' nx':List Int),r=e7 val/\(Full n f' val/\HOk n f' hs')/\J=e8 b [hw,ow,lw,nw,e7 (n.sink)] 339::vc 336 hw (hs')::vc 3 lw (L')::vc 3 nw (nx')::I):=by
 have hlim:=hok.lim
 have hsrc:=hok.src
 have hsnk:=hok.snk
 refine Ce2 Tryz.func336 C C ?_
 refine Aj (Ga C (Ah (Aj (Ga C (Ah (Au (A6 (Ca (σ:=Int×(List Int)×(List Half)×(List Int)×(List Int)) (λs=>([(0,.pointer (some ⟨b,0,none⟩)),(1,e7 (n.source)),(5,e7 (s.1))]:Env)) (λs=>e8 b [hw,ow,lw,nw,e7 (n.sink)] 339::vc 336 hw (s.2.2.1)::vc 3 lw (s.2.2.2.1)::vc 3 nw (s.2.2.2.2)::I) (λs=>(IsFlow n s.2.1)/\(s.1=netF n s.2.1 n.source)/\(0<=s.1)/\(HOk n s.2.1 s.2.2.1)/\((s.2.2.2.1.length:Int)=n.nodes)/\((s.2.2.2.2.length:Int)=n.nodes)) (λs=>(18014398509481984 - s.1).toNat) (0,f,hs,L,nx) ⟨hf,hv0.symm,om,hh,hL,hN⟩ (Aa C (Aa C (Aa Cr Bq))) A5 ?_))))))))
 rintro ⟨val,f,hs,L,nx⟩ hp
 dsimp only at hp ⊢
 obtain ⟨hf,hval,hv0,hh,hL,hN⟩:=hp
 refine Au (Aj (Gm C (Gm C (G.e (Am call341 C C (Layers_ok (n:=n) (f:=f) hok hh hr ho hrow om om)) ?_))))
 rintro _ _ ⟨_,_,⟨L1,nx2,rfl,⟨hVL1,hnL1,hzL1⟩,rfl⟩,rfl,rfl⟩
 have hlL1:=hVL1.len
 refine Ah (Bd C (λc8=>?_) (λc8=>?_))
 ·refine A4 (Ai (A6 (A0 (Gm C (Gm C (Gm C (G.e (Am call342 C C (C1 (J:=e8 b [hw,ow,lw,nw,e7 (n.sink)] 339::vc 336 hw (hs)::vc 3 lw (L1)::vc 3 nw (nx2)::I) A5 (Push_ok hok hr ho hrow hlL1 hVL1.low n.nodes.toNat 0 om n.source 4611686018427387904 f nx2 hs hVL1.src hsrc.1 hsrc.2 (by rw [hVL1.src];exact Int.le_refl _) om om hh (λu h0 h1 j hj=>by rw [hzL1 u h0 h1] at hj;omega) (λz h0 h1=>by rw [hzL1 z h0 h1];exact Int.le_refl _) hnL1))) ?_)))))))
  rintro _ _ ⟨_,_,⟨d3,f4,hs5,nx6,rfl,⟨hbd3,hPd3,hHd3,hAd3⟩,rfl⟩,rfl,rfl⟩
  have hfl:=hPd3.flow hok hf
  have hvb:=value_le hok hfl.1 (λz=>z==n.source) (by simp) (by simpa using λe=>hok.ne e.symm)
  have hcb:=(cut_nonneg_le hok (λz=>z==n.source)).2
  have hpos:1<=d3:=Int.not_lt.1 λh=>hAd3 om (by rw [hPd3.zero om];exact hVL1.go hok c8)
  have hnn:=hPd3.nlen
  exact Gr (Rad C C) (Ga C (Bf (Ak (Ch ((val+d3),(f4),(hs5),(L1),(nx6)) (by dsimp only;exact ⟨hfl.1,om,om,hHd3,om,om⟩)))))
 ·exact Bp (Ac (Ac (Aw (Ai (Aj (Gm C (Ga C (Ah (Az (Ba C C (e8 b [hw,ow,lw,nw,e7 (n.sink)] 339::vc 336 hw (hs)::vc 3 lw (L1)::vc 3 nw (nx2)::I) A5 ⟨val,f,hs,L1,nx2,rfl,⟨⟨hf,hval,hVL1.end hok c8⟩,hh⟩,rfl⟩))))))))))
section
variable {n:Net}{f todo:List Int}{rs:List Row}{x v:Int}{q:Nat}{ag:Bool}{seen:List Bool}
theorem goH_t{i:Int}(h:ag=true):leftH n f (mateH i)=goH n f ag i:=by unfold goH;rw [if_pos h]
theorem goH_f{i:Int}(h:ag=false):leftH n f i=goH n f ag i:=by unfold goH;rw [if_neg (by rw [h];decide)]
theorem RI.inc1(h:RI n f ag v (rowsL rs) seen todo x q)(hd:0<goH n f ag (e_ (e_ rs x).xs (q:Int))->e_ seen (toH n (e_ (e_ rs x).xs (q:Int)))=true):RI n f ag v (rowsL rs) seen todo x (q+1):=h.inc (by rw [rowsL_at];exact hd)
theorem RI.put1(hok:n.Ok)(h:RI n f ag v (rowsL rs) seen todo x q)(hx:0<=x)(hv:0<=v)(hi:InH n (e_ (e_ rs x).xs (q:Int))/\fromH n (e_ (e_ rs x).xs (q:Int))=x)(hl:0<goH n f ag (e_ (e_ rs x).xs (q:Int)))(hn:(!e_ seen (toH n (e_ (e_ rs x).xs (q:Int))))=true) :
  RI n f ag v (rowsL rs) (seen.set (toH n (e_ (e_ rs x).xs (q:Int))).toNat true) (todo++[toH n (e_ (e_ rs x).xs (q:Int))]) x (q+1)/\unB (seen.set (toH n (e_ (e_ rs x).xs (q:Int))).toNat true)+1=unB seen:=by
 have h1:=h.put hok hx hv hi.1 hi.2 hl (by simpa using hn)
 refine ⟨h1.1.inc1 λ_=>?_,h1.2⟩
 have hfo:=from_ok hok hi.1
 rw [Dh _ _ _ _ hfo.2.1.1 hfo.2.1.1 (by have:=h.len;omega),if_pos rfl]
theorem RI.over1(h:RI n f ag v (rowsL rs) seen todo x q)(hq:(e_ rs x).xs.length<=q):RI n f ag v (rowsL rs) seen todo (-1) 0:=h.over (by rw [rowsL_at];exact hq)
end
theorem Reached_ok{κ:Ctx}{I:List Item}{n:Net}{f:List Int}{hs:List Half}{rs:List Row}{b:Nat}{hw ow lw nw:Value}{v:Int}{ag:Bool}(hok:n.Ok)(hh:HOk n f hs)(hhs:Sl κ I hw hs)(hr:ROk n (rowsL rs))(ho:Sl κ I ow rs)(hrow:∀i:Int,0<=i->i<rs.length->Sl κ I (.slice (e_ rs i).a (e_ rs i).xs.length (e_ rs i).c) (e_ rs i).xs)(hv:0<=v/\v<n.nodes):eu Tryz.prog κ 318 [.pointer (some ⟨b,0,none⟩),e7 v,.bool ag] (e8 b [hw,ow,lw,nw,e7 (n.sink)] 339::I) (λr J=>∃(a:Option Addr) (c:Nat) (seen:List Bool),r = .slice a seen.length c/\Seen n f ag v seen/\J=vc 4 (.slice a seen.length c) seen::e8 b [hw,ow,lw,nw,e7 (n.sink)] 339::I):=by
 have hlim:=hok.lim
 have hsrc:=hok.src
 have hsnk:=hok.snk
 have hhl:=hh.len
 have hrl:=hr.rl
 refine Ce3 Tryz.func318 C C ?_
 refine Aj (Ga C (Ah (Aj (Gm C (Gr (Br C) (Gf fld339_1 C (Gl ty79 ?_)))))))
 refine Gr (Cb (α:=Row) (xs:=rs) B5 C (Bj ho)) (Ge2 (Cw (α:=Bool) (n:=rs.length) Cx ty4 C C C om om dc C) λad1 cp2=>?_)
 have hrp:(replicate rs.length (default:Bool)).length=rs.length:=List.length_replicate
 refine Ga C (Ah (Aj (Gm C (Gm C (Gr (A2 (α:=Bool) (xs:=replicate rs.length (default:Bool)) Cx ty4 C C Bk om om) (Ge0 (Cy (α:=Bool) (xs:=replicate rs.length (default:Bool)) (e:=4) (new:=true) ty4 C C C om om am) ?_))))))
 have h0:∀z:Int,0<=z->z<n.nodes->e_ (replicate rs.length (default:Bool)) z=false:=λz a b=>at_rep _ _ _ a om
 have hst:=RI.start (f:=f) (ag:=ag) (rs:=rowsL rs) hv (s0:=replicate rs.length (default:Bool)) (by rw [List.length_replicate];exact hrl) h0
 have hst2:unB (List.set (replicate rs.length (default:Bool)) v.toNat true)+[v].length<=n.nodes.toNat+1:=by have h9:=List.count_le_length (a:=false) (l:=List.set (replicate rs.length (default:Bool)) v.toNat true);rw [List.length_set,List.length_replicate] at h9;unfold unB;simp only [List.length_cons,List.length_nil];omega
 refine Ah (Av (S4 7 0 1 2 C C C C) (Au (Aj (Gm C (Ge1 (Cj (α:=Int) (cs:=[_]) (xs:=[v]) Ad ef C C dc dc C C C C) λad3=>?_)))))
 refine Ga C (Ah (A6 (Ca (σ:=(Option Addr)×Nat×(List Int)×(List Bool)) (λs=>([(0,.pointer (some ⟨b,0,none⟩)),(2,.bool ag),(7,.slice ad1 (replicate rs.length (default:Bool)).length cp2),(8,.slice s.1 s.2.2.1.length s.2.1)]:Env)) (λs=>vc 3 (.slice s.1 s.2.2.1.length s.2.1) (s.2.2.1)::vc 4 (.slice ad1 (replicate rs.length (default:Bool)).length cp2) (s.2.2.2)::e8 b [hw,ow,lw,nw,e7 (n.sink)] 339::I) (λs=>(RI n f ag v (rowsL rs) s.2.2.2 s.2.2.1 (-1) 0)/\(unB s.2.2.2+s.2.2.1.length<=n.nodes.toNat+1)) (λs=>unB s.2.2.2+s.2.2.1.length) (ad3,1,[v],List.set (replicate rs.length (default:Bool)) (v).toNat (true)) ⟨hst,hst2⟩ (Aa C (Aa C (Aa C (Aa (Da C (by first|rfl|simp)) Bq)))) A5 ?_)))
 rintro ⟨a,c,todo,seen⟩ hp
 dsimp only at hp ⊢
 obtain ⟨hI,hub⟩:=hp
 have hl2:=hI.len
 refine Au (Aj (Gm C (Gr (Bz Ad C) (Gr (Ci C C) (Ah (Bd C (λc26=>?_) (λc26=>?_)))))))
 ·refine A4 (Ai (Au (A6 (Au (Bt mixed (C7 11 (Dr 0 C (Af C) ?_)))))))
  have hx0:=hI.wait _ (Cq (xs:=todo) (i:=0) om om)
  refine Dr 1 C (Br C) (Dr 2 C (Ab fld339_1 C) (Dr 3 C (As ty79) ?_))
  refine Dr 4 C (Af C) (Dr 5 C (A2 (α:=Int) (xs:=todo) Ad ef C C Bk om om) (Dr 6 C (B3 (xs:=todo) ef C Bk om om) (Dr 7 C (A2 (α:=Row) (xs:=rs) B5 ty22 C C (Bj ho) om om) (Dr 8 C (Ct (α:=Row) (xs:=rs) (u:= .slice (e_ rs (e_ todo 0)).a (e_ rs (e_ todo 0)).xs.length (e_ rs (e_ todo 0)).c) ty22 C (Bj ho) om om C) (Dr 9 C (Bz Ad C) (Dr 10 C (Af C) (Dz (Ai (Av (S7 39 38 37 0 2 7 8 C C C C C C C) (A6 (Ca (σ:=Nat×(Option Addr)×Nat×(List Int)×(List Bool)) (λs=>([(0,.pointer (some ⟨b,0,none⟩)),(2,.bool ag),(7,.slice ad1 (replicate rs.length (default:Bool)).length cp2),(8,.slice s.2.1 s.2.2.2.1.length s.2.2.1),(37,.slice (e_ rs (e_ todo 0)).a (e_ rs (e_ todo 0)).xs.length (e_ rs (e_ todo 0)).c),(38,e7 ((((e_ rs (e_ todo 0)).xs.length:Nat):Int))),(39,e7 ((s.1:Nat):Int))]:Env)) (λs=>vc 3 (.slice s.2.1 s.2.2.2.1.length s.2.2.1) (s.2.2.2.1)::vc 4 (.slice ad1 (replicate rs.length (default:Bool)).length cp2) (s.2.2.2.2)::e8 b [hw,ow,lw,nw,e7 (n.sink)] 339::I) (λs=>(s.1<=(e_ rs (e_ todo 0)).xs.length)/\(0<s.2.2.2.1.length)/\(e_ s.2.2.2.1 0=(e_ todo 0))/\(RI n f ag v (rowsL rs) s.2.2.2.2 (s.2.2.2.1.drop 1) (e_ todo 0) s.1)/\(unB s.2.2.2.2+s.2.2.2.1.length=unB seen+todo.length)) (λs=>(e_ rs (e_ todo 0)).xs.length - s.1) (0,a,c,todo,seen) (show ((0:Nat)<=(e_ rs (e_ todo 0)).xs.length)/\(0<(todo:List Int).length)/\(e_ (todo:List Int) 0=(e_ todo 0))/\(RI n f ag v (rowsL rs) (seen:List Bool) ((todo:List Int).drop 1) (e_ todo 0) (0:Nat))/\(unB (seen:List Bool)+(todo:List Int).length=unB seen+todo.length) from ⟨om,om,rfl,(hI.next om),rfl⟩) (Aa C (Aa C (Aa C (Aa (Da C (by first|rfl|simp)) (Aa C (Aa C (Aa Cr Bq))))))) A5 ?_)))))))))))
  rintro ⟨q,a1,c1,w,seen1⟩ hp
  dsimp only at hp ⊢
  obtain ⟨hq,hwl,hw0,hI1,hmu⟩:=hp
  refine W.pull (λw hs=>(Ce (hrow (e_ todo 0) om om) Ay).le w hs) λhrm=>?_
  have hl3:=hI1.len
  refine Aj (Gr (Bi C C) (Ah (Au (Bd C (λc40=>?_) (λc40=>?_)))))
  ·refine A4 (Ai (Au (A6 (Aj (Gr (A2 (α:=Int) (xs:=(e_ rs (e_ todo 0)).xs) Ad ef C C (Ce (hrow (e_ todo 0) om om) Ay) om om) (Gr (B3 (xs:=(e_ rs (e_ todo 0)).xs) ef C (Ce (hrow (e_ todo 0) om om) Ay) om om) ?_))))))
   have hm:=hr.row hx0.1.1 hx0.1.2 (j:=(q:Int)) om om
   have hg:=hh.get _ hm.1
   have hfo:=from_ok hok hm.1
   have hi2:0<=(e_ (e_ rs (e_ todo 0)).xs (q:Int))/\(e_ (e_ rs (e_ todo 0)).xs (q:Int))<2*n.arcs.length:=hm.1
   have hmi:0<=mateH (e_ (e_ rs (e_ todo 0)).xs (q:Int))/\mateH (e_ (e_ rs (e_ todo 0)).xs (q:Int))<2*n.arcs.length:=hm.1.mate
   have hg2:=hh.get _ hm.1.mate
   refine Ga C (Ah (Au (Bt mixed (C7 19 (Dr 0 C (Af C) (Dr 1 C (Br C) (Dr 2 C (Ab fld339_0 C) (Dr 3 C (As ty337) ?_))))))))
   refine Dr 4 C (Af C) (Dr 5 C (A2 (α:=Half) (xs:=hs) Co ty336 C C (Bj hhs) om om) (Dr 6 C (Es (α:=Half) (xs:=hs) fld336_0 C (Bj hhs) om) (Dr 7 C (Es (α:=Half) (xs:=hs) fld305_1 C (Bj hhs) om) (Dr 8 C (E3 (α:=Half) (xs:=hs) (u:=e7 ((e_ hs (e_ ((e_ rs (e_ todo 0)).xs) (q:Int))).dst)) ef C (Bj hhs) om om C) (Dr 9 C (Af C) (Dr 10 C (Br C) (Dr 11 C (Ab fld339_0 C) (Dr 12 C (As ty337) ?_))))))))
   refine Dr 13 C (Af C) (Dr 14 C (A2 (α:=Half) (xs:=hs) Co ty336 C C (Bj hhs) om om) (Dr 15 C (Es (α:=Half) (xs:=hs) fld336_1 C (Bj hhs) om) (Dr 16 C (E3 (α:=Half) (xs:=hs) (u:=e7 ((e_ hs (e_ ((e_ rs (e_ todo 0)).xs) (q:Int))).left)) ef C (Bj hhs) om om C) (Dr 17 C (Bb C) (Dr 18 C (Bb C) (Dz (Ai (Av (S10 12 11 10 0 2 7 8 37 38 39 C C C C C C C C C C) (Fe (σ:=Int) (λs=>([(0,.pointer (some ⟨b,0,none⟩)),(2,.bool ag),(7,.slice ad1 (replicate rs.length (default:Bool)).length cp2),(8,.slice a1 w.length c1),(11,e7 ((e_ hs (e_ ((e_ rs (e_ todo 0)).xs) (q:Int))).dst)),(12,e7 s),(37,.slice (e_ rs (e_ todo 0)).a (e_ rs (e_ todo 0)).xs.length (e_ rs (e_ todo 0)).c),(38,e7 ((((e_ rs (e_ todo 0)).xs.length:Nat):Int))),(39,e7 ((q:Int)))]:Env)) (λs=>vc 3 (.slice a1 w.length c1) (w)::vc 4 (.slice ad1 (replicate rs.length (default:Bool)).length cp2) (seen1)::e8 b [hw,ow,lw,nw,e7 (n.sink)] 339::I) (λs=>(s=goH n f ag (e_ (e_ rs (e_ todo 0)).xs (q:Int)))) ?_ ?_)))))))))
   ·refine Aj (Gm C (Ah (Ez C (λc60=>?_) (λc60=>?_))))
    ·refine A0 (Gm C (Gr (Br C) (Gf fld339_0 C (Gl ty337 ?_))))
     exact Gm C (Gr ((xor_mate (i:=e_ ((e_ rs (e_ todo 0)).xs) (q:Int)) om om)▸Runs.xorw C C) (Gr (A2 (α:=Half) (xs:=hs) Co ty336 C C (Bj hhs) om om) (Gr (Es (α:=Half) (xs:=hs) fld336_1 C (Bj hhs) om) (Gr (E3 (α:=Half) (xs:=hs) (u:=e7 ((e_ hs (mateH (e_ ((e_ rs (e_ todo 0)).xs) (q:Int)))).left)) ef C (Bj hhs) om om C) (Ga C (Bf (Cp (((e_ hs (mateH (e_ ((e_ rs (e_ todo 0)).xs) (q:Int)))).left)) (by first|exact hg.2.2.trans (goH_f c60)|exact hg2.2.2.trans (goH_t c60)))))))))
    ·exact A4 (Cp (((e_ hs (e_ ((e_ rs (e_ todo 0)).xs) (q:Int))).left)) (by first|exact hg.2.2.trans (goH_f c60)|exact hg2.2.2.trans (goH_t c60)))
   ·rintro lft hp
    have hlft:(lft=goH n f ag (e_ (e_ rs (e_ todo 0)).xs (q:Int))):=hp
    refine Aj (Gm C (Gr (Ci C C) (Gm C (Bs (d:=72) C (λg72=>?_) (λg72=>?_)))))
    ·refine e9 (Af C) (e9 (Af C) (e9 (A2 (α:=Bool) (xs:=seen1) Cx ty4 C C Bk om om) (e9 (Runs.getB (xs:=seen1) ty4 C Bk om om) (e9 (B8 C) (Gr (Ap C C) (Ah (Av (S9 78 0 2 7 8 11 37 38 39 C C C C C C C C C) (Ez C (λc78=>?_) (λc78=>?_)))))))))
     ·refine Aj (Gm C (Gm C (Gr (A2 (α:=Bool) (xs:=seen1) Cx ty4 C C Bk om om) (Ge0 (Cy (α:=Bool) (xs:=seen1) (e:=4) (new:=true) ty4 C C C om om am) ?_))))
      refine Ah (A0 (Gm C (Gm C (Ge1 (Cj (α:=Int) (cs:=[_]) (xs:=[(e_ hs (e_ ((e_ rs (e_ todo 0)).xs) (q:Int))).dst]) Ad ef C C dc dc C C C C) λad4=>?_))))
      refine Ge2 (Cn (α:=Int) (e:=3) (xs:=w) (ys:=([(e_ hs (e_ ((e_ rs (e_ todo 0)).xs) (q:Int))).dst]:List Int)) Ad ef C C C mm Bk lcn dc C (λ_ _=>am)) λad5 cp6=>?_
      exact Ga C (Bf (Ak (Ai (Av (S7 8 0 2 7 37 38 39 C C C C C C C) (A0 (Gr (Rad C C) (Gm C (Bf (Ch ((q+1),(ad5),(cp6),(w++([(e_ hs (e_ ((e_ rs (e_ todo 0)).xs) (q:Int))).dst]:List Int)),(List.set seen1 ((e_ hs (e_ ((e_ rs (e_ todo 0)).xs) (q:Int))).dst).toNat (true))) (by dsimp only;exact ⟨om,(by first|exact hwl|(rw [List.length_append];omega)),(by first|exact hw0|(rw [at_zero_append hwl];exact hw0)),(by first|exact hI1.inc1 (λh=>by omega)|exact hI1.inc1 (λ_=>by rw [←hg.2.1];simpa using c78)|(rw [hg.2.1,drop_one_append hwl];exact (hI1.put1 hok hx0.1.1 hv.1 hm om (by rw [←hg.2.1];exact c78)).1)),(by first|exact hmu|(rw [hg.2.1,List.length_append];have:=(hI1.put1 hok hx0.1.1 hv.1 hm om (by rw [←hg.2.1];exact c78)).2;simp only [List.length_cons,List.length_nil];omega))⟩))))))))))
     ·exact A4 (Ak (Ai (A0 (Gr (Rad C C) (Gm C (Bf (Ch ((q+1),(a1),(c1),(w),(seen1)) (by dsimp only;exact ⟨om,(by first|exact hwl|(rw [List.length_append];omega)),(by first|exact hw0|(rw [at_zero_append hwl];exact hw0)),(by first|exact hI1.inc1 (λh=>by omega)|exact hI1.inc1 (λ_=>by rw [←hg.2.1];simpa using c78)|(rw [hg.2.1,drop_one_append hwl];exact (hI1.put1 hok hx0.1.1 hv.1 hm om (by rw [←hg.2.1];exact c78)).1)),(by first|exact hmu|(rw [hg.2.1,List.length_append];have:=(hI1.put1 hok hx0.1.1 hv.1 hm om (by rw [←hg.2.1];exact c78)).2;simp only [List.length_cons,List.length_nil];omega))⟩))))))))
    ·exact eb (eb (eb (eb (eb (Gr (Al C C) (Ah (Av (S9 78 0 2 7 8 11 37 38 39 C C C C C C C C C) (Eo C (A4 (Ak (Ai (A0 (Gr (Rad C C) (Gm C (Bf (Ch ((q+1),(a1),(c1),(w),(seen1)) (by dsimp only;exact ⟨om,(by first|exact hwl|(rw [List.length_append];omega)),(by first|exact hw0|(rw [at_zero_append hwl];exact hw0)),(by first|exact hI1.inc1 (λh=>by omega)|exact hI1.inc1 (λ_=>by rw [←hg.2.1];simpa using c78)|(rw [hg.2.1,drop_one_append hwl];exact (hI1.put1 hok hx0.1.1 hv.1 hm om (by rw [←hg.2.1];exact c78)).1)),(by first|exact hmu|(rw [hg.2.1,List.length_append];have:=(hI1.put1 hok hx0.1.1 hv.1 hm om (by rw [←hg.2.1];exact c78)).2;simp only [List.length_cons,List.length_nil];omega))⟩)))))))))))))))))
  ·refine Bp (Ac (Ac (Aw (Ak (Ai (A0 (Gm C (Gr (Ew (α:=Int) (xs:=w) (l:=1) Ad ef C C om Bk om) (G.fit (J:=vc 3 (.slice (adrop a1 c1 1 (Enc.sz Int)) (List.drop 1 w).length (c1 - 1)) (List.drop 1 w)::vc 4 (.slice ad1 (replicate rs.length (default:Bool)).length cp2) (seen1)::e8 b [hw,ow,lw,nw,e7 (n.sink)] 339::I) (Fit.upd am (reslice (l:=1) om)) ?_)))))))))
   exact Ga C (Bf (Ch (((adrop a1 c1 1 (Enc.sz Int))),((c1 - 1)),(List.drop 1 w),(seen1)) (by dsimp only;exact ⟨(hI1.over1 om),(by rw [List.length_drop];omega)⟩) (hlt:=by (try dsimp only);exact (by rw [List.length_drop];omega))))
 ·refine Bp (Ac (Ac (Aw (Ai (Aj (Gm C (Ga C (Ah (Az ?_)))))))))
  have hdn:=hI.done hok hr om
  have hsl:(replicate rs.length (default:Bool)).length=seen.length:=by rw [List.length_replicate];omega
  exact Ba C C (vc 4 (.slice ad1 (replicate rs.length (default:Bool)).length cp2) (seen)::e8 b [hw,ow,lw,nw,e7 (n.sink)] 339::I) A5 ⟨ad1,cp2,seen,by rw [hsl],hdn,by rw [hsl]⟩
variable {κ:Ctx}{I:List Item}
def rowsI(rs:List Row):List Item:=rs.map λr=>vc 3 (.slice r.a r.xs.length r.c) r.xs
theorem Fit.nilrows:∀N:Nat,Fit κ I (rowsI (replicate N (default:Row))++I)
 |0=>Fk _
 |N+1=>A8 (Fit.nilrows N) (B9 _ _)
theorem At.rows{I:List Item}{ad:Option Addr}{c:Nat}{xs:List Int}:∀{rs:List Row} {i:Int},0<=i->i<rs.length->
  At (rowsI rs++I) (vc 3 (.slice (e_ rs i).a (e_ rs i).xs.length (e_ rs i).c) (e_ rs i).xs) (vc 3 (.slice ad xs.length c) xs) (rowsI (List.set rs i.toNat ⟨ad,c,xs⟩)++I):=fun {rs} {i} h0 h=>by
 obtain ⟨k,rfl⟩:∃k:Nat,i=(k:Int):=⟨i.toNat,by omega⟩
 rw [Int.toNat_natCast]
 clear h0
 induction rs generalizing k with
 |nil=>simp at h;omega
 |cons r rs ih=>
  cases k with
  |zero=>exact At.head _ _ _
  |succ k=>exact At.tail _ (ih k (by simp at h;omega))
theorem rowsI_mem{I:List Item}{rs:List Row}{i:Int}(h0:0<=i)(h:i<rs.length):vc 3 (.slice (e_ rs i).a (e_ rs i).xs.length (e_ rs i).c) (e_ rs i).xs∈rowsI rs++I:=(At.rows (ad:=none) (c:=0) (xs:=[]) h0 h).mem
theorem rowsI_sl{rs:List Row}(i:Int)(h0:0<=i)(h:i<rs.length):Sl κ (rowsI rs++I) (.slice (e_ rs i).a (e_ rs i).xs.length (e_ rs i).c) (e_ rs i).xs:=Fo (rowsI_mem h0 h)
structure OI (n:Net) (rs:List Row) (hs:List Half) (k:Nat):Prop where
 len:(rs.length:Int)=n.nodes
 hlen:hs.length=2*k
 get:∀i:Int,0<=i->i<2*k->(e_ hs i).frm=fromH n i/\(e_ hs i).dst=toH n i/\(e_ hs i).left=if i % 2=0 then (e_ n.arcs (i / 2)).cap else 0
 all:∀v,0<=v->v<n.nodes->∀i∈(e_ rs v).xs,(0<=i/\i<2*k)/\fromH n i=v
 has:∀i:Int,0<=i->i<2*k->i∈(e_ rs (fromH n i)).xs
 bnd:∀v,0<=v->v<n.nodes->(e_ rs v).xs.length<=2*k
theorem OI.start{n:Net}(hok:n.Ok):OI n (replicate n.nodes.toNat (default:Row)) [] 0:=by
 have:=hok.two
 have h:∀v,0<=v->v<n.nodes->e_ (replicate n.nodes.toNat (default:Row)) v=default:=λv a b=>at_rep _ _ _ a om
 exact ⟨by rw [List.length_replicate];omega,rfl,λi a b=>by omega,λv a b i hi=>(by rw [h v a b] at hi;cases hi),λi a b=>om,λv a b=>(by rw [h v a b];exact Nat.zero_le _)⟩
theorem OI.step{n:Net}(hok:n.Ok){rs:List Row}{hs:List Half}{k:Nat}(h:OI n rs hs k)(hk:k<n.arcs.length)(a1 a2:Option Addr)(c1 c2:Nat){x y u w:Int}(hx:x=2*k)(hy:y=2*k+1)(hu:u=(e_ n.arcs k).frm)(hw:w=(e_ n.arcs k).dst) :
  OI n (List.set (List.set rs u.toNat ⟨a1,c1,(e_ rs u).xs++[x]⟩) w.toNat ⟨a2,c2,(e_ (List.set rs u.toNat ⟨a1,c1,(e_ rs u).xs++[x]⟩) w).xs++[y]⟩)
   (hs++[⟨u,w,(e_ n.arcs k).cap,(e_ n.arcs k).cap⟩,⟨w,u,0,0⟩]) (k+1):=by
 have ha:=arc_at hok hk
 subst hx hy hu hw
 have hlen:=h.len
 have hl2:=h.hlen
 generalize hA:e_ n.arcs k=A at *
 have f0:fromH n (2*(k:Int))=A.frm:=by unfold fromH;rw [if_pos om,show (2*(k:Int)) / 2=k from by omega,hA]
 have f1:fromH n (2*(k:Int)+1)=A.dst:=by unfold fromH;rw [if_neg om,show (2*(k:Int)+1) / 2=k from by omega,hA]
 have t0:toH n (2*(k:Int))=A.dst:=by unfold toH;rw [if_pos om,show (2*(k:Int)) / 2=k from by omega,hA]
 have t1:toH n (2*(k:Int)+1)=A.frm:=by unfold toH;rw [if_neg om,show (2*(k:Int)+1) / 2=k from by omega,hA]
 have e1:e_ (List.set rs A.frm.toNat ⟨a1,c1,(e_ rs A.frm).xs++[2*(k:Int)]⟩) A.dst=e_ rs A.dst:=by rw [Dh rs _ _ _ ha.1.1 ha.2.1.1 om,if_neg ha.2.2.1]
 have hat:∀v,0<=v->v<n.nodes->(e_ (List.set (List.set rs A.frm.toNat ⟨a1,c1,(e_ rs A.frm).xs++[2*(k:Int)]⟩) A.dst.toNat ⟨a2,c2,(e_ (List.set rs A.frm.toNat ⟨a1,c1,(e_ rs A.frm).xs++[2*(k:Int)]⟩) A.dst).xs++[2*(k:Int)+1]⟩) v).xs =
   (e_ rs v).xs++(if A.dst=v then [2*(k:Int)+1] else if A.frm=v then [2*(k:Int)] else []):=λv h0 h1=>by
  rw [Dh _ _ _ _ ha.2.1.1 h0 (by rw [List.length_set];omega),e1,Dh rs _ _ _ ha.1.1 h0 om]
  by_cases d1:A.dst=v
  ·rw [if_pos d1,if_pos d1,d1]
  ·rw [if_neg d1,if_neg d1]
   by_cases d2:A.frm=v
   ·rw [if_pos d2,if_pos d2,d2]
   ·rw [if_neg d2,if_neg d2,List.append_nil]
 refine ⟨by simp;exact hlen,by simp;omega,λi h0 h1=>?_,λv h0 h1 i hi=>?_,λi h0 h1=>?_,λv h0 h1=>?_⟩
 ·by_cases hi:i<2*k
  ·have:=h.get i h0 hi
   have e:e_ (hs++[⟨A.frm,A.dst,A.cap,A.cap⟩,⟨A.dst,A.frm,0,0⟩]) i=e_ hs i:=by
    have:=Eg hs [⟨A.frm,A.dst,A.cap,A.cap⟩,⟨A.dst,A.frm,0,0⟩] i.toNat om
    rwa [show ((i.toNat:Nat):Int)=i from by omega] at this
   rw [e];exact this
  ·have hcase:i=2*(k:Int)\/i=2*(k:Int)+1:=by omega
   rcases hcase with rfl|rfl
   ·have e:e_ (hs++[⟨A.frm,A.dst,A.cap,A.cap⟩,⟨A.dst,A.frm,0,0⟩]) (2*(k:Int))=⟨A.frm,A.dst,A.cap,A.cap⟩:=by
     unfold e_
     rw [show (2*(k:Int)).toNat=hs.length+0 from by omega,List.getD_eq_getElem?_getD,List.getElem?_append_right om,Nat.add_sub_cancel_left];rfl
    rw [e,f0,t0,if_pos om,show (2*(k:Int)) / 2=k from by omega,hA];exact ⟨rfl,rfl,rfl⟩
   ·have e:e_ (hs++[⟨A.frm,A.dst,A.cap,A.cap⟩,⟨A.dst,A.frm,0,0⟩]) (2*(k:Int)+1)=⟨A.dst,A.frm,0,0⟩:=by
     unfold e_
     rw [show (2*(k:Int)+1).toNat=hs.length+1 from by omega,List.getD_eq_getElem?_getD,List.getElem?_append_right om,Nat.add_sub_cancel_left];rfl
    rw [e,f1,t1,if_neg om];exact ⟨rfl,rfl,rfl⟩
 ·rw [hat v h0 h1] at hi
  rcases List.mem_append.1 hi with hi|hi
  ·have:=h.all v h0 h1 i hi
   exact ⟨by omega,this.2⟩
  ·by_cases d1:A.dst=v
   ·rw [if_pos d1] at hi
    rw [List.mem_singleton.1 hi];exact ⟨by omega,f1.trans d1⟩
   ·rw [if_neg d1] at hi
    by_cases d2:A.frm=v
    ·rw [if_pos d2] at hi
     rw [List.mem_singleton.1 hi];exact ⟨by omega,f0.trans d2⟩
    ·rw [if_neg d2] at hi;cases hi
 ·by_cases hi:i<2*k
  ·have:=h.has i h0 hi
   have hfr:=arc_at hok (k:=(i / 2).toNat) om
   rw [show (((i / 2).toNat:Nat):Int)=i / 2 from by omega] at hfr
   rw [hat _ (by unfold fromH;split<;>omega) (by unfold fromH;split<;>omega)]
   exact List.mem_append_left _ this
  ·have hcase:i=2*(k:Int)\/i=2*(k:Int)+1:=by omega
   rcases hcase with rfl|rfl
   ·rw [f0,hat _ ha.1.1 ha.1.2,if_neg (λe=>ha.2.2.1 e.symm),if_pos rfl];exact List.mem_append_right _ (List.mem_singleton.2 rfl)
   ·rw [f1,hat _ ha.2.1.1 ha.2.1.2,if_pos rfl];exact List.mem_append_right _ (List.mem_singleton.2 rfl)
 ·rw [hat v h0 h1,List.length_append]
  have:=h.bnd v h0 h1
  split
  ·simp only [List.length_cons,List.length_nil];omega
  ·split<;>simp only [List.length_cons,List.length_nil]<;>omega
theorem OI.done{n:Net}(hok:n.Ok){rs:List Row}{hs:List Half}{k:Nat}(h:OI n rs hs k)(hk:k=n.arcs.length):HOk n (replicate n.arcs.length (0:Int)) hs/\ROk n (rowsL rs):=by
 subst hk
 have hz:=flow_zero n hok
 have h0:∀j:Int,0<=j->j<n.arcs.length->e_ (replicate n.arcs.length (0:Int)) j=0:=λj a b=>at_rep _ _ _ a b
 refine ⟨⟨by have:=h.hlen;omega,by simp,hz.1.cap,λi hi=>?_⟩,⟨by unfold rowsL;rw [List.length_map];exact h.len,λv a b i hi=>by rw [rowsL_at] at hi;exact h.all v a b i hi,λi hi=>by rw [rowsL_at];exact h.has i hi.1 hi.2⟩⟩
 have h1:=hi.half
 have:=h.get i hi.1 hi.2
 refine ⟨this.1,this.2.1,this.2.2.trans ?_⟩
 unfold leftH
 rw [h0 _ h1.1 h1.2]
 split<;>omega
set_option maxHeartbeats 4000000 in
theorem Open_ok{n:Net}{v:Value}(hl:Sl κ I v n.arcs)(hok:n.Ok):eu Tryz.prog κ 335 [.agg #[e7 (n.nodes),e7 (n.source),e7 (n.sink),v]] I (λr J=>∃(b:Nat) (hw ow lw nw:Value) (hs:List Half) (rs:List Row) (L nx:List Int),r = .pointer (some ⟨b,0,none⟩)/\(HOk n (replicate n.arcs.length (0:Int)) hs/\ROk n (rowsL rs)/\(L.length:Int)=n.nodes/\(nx.length:Int)=n.nodes)/\J=e8 b [hw,ow,lw,nw,e7 (n.sink)] 339::vc 336 hw (hs)::vc 3 lw (L)::vc 3 nw (nx)::(vc 22 ow rs::(rowsI rs++I))):=by
 refine C1 (J:=(rowsI (replicate n.nodes.toNat (default:Row))++I)) (Fit.nilrows _) ?_
 have hl2:=hl
 have hlim:=hok.lim
 have htwo:=hok.two
 have hsrc:=hok.src
 have hsnk:=hok.snk
 refine Ce1 Tryz.func335 C C ?_
 refine Aj (Ge1 (Bg (cs:=[_,_,_,_]) C C C) λb1=>Ga C (Ah (Fe (σ:=Nat×(Option Addr)×Nat×(Option Addr)×Nat×(Option Addr)×Nat) (λs=>([(1,.pointer (some ⟨b1,0,none⟩)),(3,.pointer (some ⟨s.1,0,none⟩))]:Env)) (λs=>e8 s.1 [.slice none 0 0,.slice s.2.1 (replicate n.nodes.toNat (default:Row)).length s.2.2.1,.slice s.2.2.2.1 (replicate n.nodes.toNat (default:Int)).length s.2.2.2.2.1,.slice s.2.2.2.2.2.1 (replicate n.nodes.toNat (default:Int)).length s.2.2.2.2.2.2,e7 (n.sink)] 339::vc 22 (.slice s.2.1 (replicate n.nodes.toNat (default:Row)).length s.2.2.1) (replicate n.nodes.toNat (default:Row))::vc 3 (.slice s.2.2.2.1 (replicate n.nodes.toNat (default:Int)).length s.2.2.2.2.1) (replicate n.nodes.toNat (default:Int))::vc 3 (.slice s.2.2.2.2.2.1 (replicate n.nodes.toNat (default:Int)).length s.2.2.2.2.2.2) (replicate n.nodes.toNat (default:Int))::e8 b1 [e7 (n.nodes),e7 (n.source),e7 (n.sink),v] 303::(rowsI (replicate n.nodes.toNat (default:Row))++I)) (λs=>True) ?_ ?_)))
 ·refine Bt mixed (C7 14 (Dr 0 C (Ab fld303_0 C) (Dr 1 C (As ef) ?_)))
  refine Dr 3 C (Ab fld303_0 C) (Dr 4 C (As ef) ?_)
  refine Dr 6 C (Ab fld303_0 C) (Dr 7 C (As ef) ?_)
  refine Dr 9 C (Ab fld303_2 C) (Dr 10 C (As ef) ?_)
  refine Dv (rs:=[2,5,8]) kr C C (Ex ?_ (Ex ?_ (En ?_)))
  ·refine Se2 C (Cw (α:=Row) (n:=n.nodes.toNat) B5 ty22 C C C om om dc C) λad2 cp3=>?_
   refine Dv (rs:=[5,8]) kr C C (Ex ?_ (En ?_))
   ·refine Se2 C (Cw (α:=Int) (n:=n.nodes.toNat) Ad ef C C C om om dc C) λad4 cp5=>?_
    refine Ds1 8 (Se2 C (Cw (α:=Int) (n:=n.nodes.toNat) Ad ef C C C om om dc C) λad6 cp7=>?_)
    refine Dr 11 C (Bc (cells:=[_,_,_,_,_]) ty339 Ea pl339 C C) (Ds1 12 (Se1 C (Bg (cs:=[_,_,_,_,_]) C C C) λb8=>?_))
    exact Dr 13 C (Bb C) (Dz (Cp ((b8),(ad2),(cp3),(ad4),(cp5),(ad6),(cp7)) trivial))
   ·refine Se2 C (Cw (α:=Int) (n:=n.nodes.toNat) Ad ef C C C om om dc C) λad9 cp10=>?_
    refine Ds1 5 (Se2 C (Cw (α:=Int) (n:=n.nodes.toNat) Ad ef C C C om om dc C) λad11 cp12=>?_)
    refine Dr 11 C (Bc (cells:=[_,_,_,_,_]) ty339 Ea pl339 C C) (Ds1 12 (Se1 C (Bg (cs:=[_,_,_,_,_]) C C C) λb13=>?_))
    exact Dr 13 C (Bb C) (Dz (Cp ((b13),(ad2),(cp3),(ad11),(cp12),(ad9),(cp10)) trivial))
  ·refine Se2 C (Cw (α:=Int) (n:=n.nodes.toNat) Ad ef C C C om om dc C) λad14 cp15=>?_
   refine Dv (rs:=[2,8]) kr C C (Ex ?_ (En ?_))
   ·refine Se2 C (Cw (α:=Row) (n:=n.nodes.toNat) B5 ty22 C C C om om dc C) λad16 cp17=>?_
    refine Ds1 8 (Se2 C (Cw (α:=Int) (n:=n.nodes.toNat) Ad ef C C C om om dc C) λad18 cp19=>?_)
    refine Dr 11 C (Bc (cells:=[_,_,_,_,_]) ty339 Ea pl339 C C) (Ds1 12 (Se1 C (Bg (cs:=[_,_,_,_,_]) C C C) λb20=>?_))
    exact Dr 13 C (Bb C) (Dz (Cp ((b20),(ad16),(cp17),(ad14),(cp15),(ad18),(cp19)) trivial))
   ·refine Se2 C (Cw (α:=Int) (n:=n.nodes.toNat) Ad ef C C C om om dc C) λad21 cp22=>?_
    refine Ds1 2 (Se2 C (Cw (α:=Row) (n:=n.nodes.toNat) B5 ty22 C C C om om dc C) λad23 cp24=>?_)
    refine Dr 11 C (Bc (cells:=[_,_,_,_,_]) ty339 Ea pl339 C C) (Ds1 12 (Se1 C (Bg (cs:=[_,_,_,_,_]) C C C) λb25=>?_))
    exact Dr 13 C (Bb C) (Dz (Cp ((b25),(ad23),(cp24),(ad14),(cp15),(ad21),(cp22)) trivial))
  ·refine Se2 C (Cw (α:=Int) (n:=n.nodes.toNat) Ad ef C C C om om dc C) λad26 cp27=>?_
   refine Dv (rs:=[2,5]) kr C C (Ex ?_ (En ?_))
   ·refine Se2 C (Cw (α:=Row) (n:=n.nodes.toNat) B5 ty22 C C C om om dc C) λad28 cp29=>?_
    refine Ds1 5 (Se2 C (Cw (α:=Int) (n:=n.nodes.toNat) Ad ef C C C om om dc C) λad30 cp31=>?_)
    refine Dr 11 C (Bc (cells:=[_,_,_,_,_]) ty339 Ea pl339 C C) (Ds1 12 (Se1 C (Bg (cs:=[_,_,_,_,_]) C C C) λb32=>?_))
    exact Dr 13 C (Bb C) (Dz (Cp ((b32),(ad28),(cp29),(ad30),(cp31),(ad26),(cp27)) trivial))
   ·refine Se2 C (Cw (α:=Int) (n:=n.nodes.toNat) Ad ef C C C om om dc C) λad33 cp34=>?_
    refine Ds1 2 (Se2 C (Cw (α:=Row) (n:=n.nodes.toNat) B5 ty22 C C C om om dc C) λad35 cp36=>?_)
    refine Dr 11 C (Bc (cells:=[_,_,_,_,_]) ty339 Ea pl339 C C) (Ds1 12 (Se1 C (Bg (cs:=[_,_,_,_,_]) C C C) λb37=>?_))
    exact Dr 13 C (Bb C) (Dz (Cp ((b37),(ad35),(cp36),(ad33),(cp34),(ad26),(cp27)) trivial))
 ·rintro ⟨b,ao,co,al,cl,an,cn⟩ hp
  refine Au (Aj (Gf fld303_3 C (Gl ty301 ?_)))
  refine Gr (Cb (α:=Arc) (xs:=n.arcs) Dx C (Bj hl)) (Gm C (Ah (A6 (Ca (σ:=Nat×(Option Addr)×Nat×(List Half)×(List Row)) (λs=>([(3,.pointer (some ⟨b,0,none⟩)),(20,v),(21,e7 ((n.arcs.length:Nat):Int)),(22,e7 ((s.1:Nat):Int))]:Env)) (λs=>vc 336 (.slice s.2.1 s.2.2.2.1.length s.2.2.1) (s.2.2.2.1)::e8 b [.slice s.2.1 s.2.2.2.1.length s.2.2.1,.slice ao (replicate n.nodes.toNat (default:Row)).length co,.slice al (replicate n.nodes.toNat (default:Int)).length cl,.slice an (replicate n.nodes.toNat (default:Int)).length cn,e7 (n.sink)] 339::vc 22 (.slice ao (replicate n.nodes.toNat (default:Row)).length co) (s.2.2.2.2)::vc 3 (.slice al (replicate n.nodes.toNat (default:Int)).length cl) (replicate n.nodes.toNat (default:Int))::vc 3 (.slice an (replicate n.nodes.toNat (default:Int)).length cn) (replicate n.nodes.toNat (default:Int))::e8 b1 [e7 (n.nodes),e7 (n.source),e7 (n.sink),v] 303::(rowsI s.2.2.2.2++I)) (λs=>(s.1<=n.arcs.length)/\(OI n s.2.2.2.2 s.2.2.2.1 s.1)) (λs=>n.arcs.length - s.1) (0,none,0,[],(replicate n.nodes.toNat (default:Row))) ⟨om,(OI.start hok)⟩ (Aa C (Aa C (Aa C (Aa Cr Bq)))) (B9 _ _) ?_))))
  rintro ⟨k,ah,ch,hs,rs⟩ hp
  dsimp only at hp ⊢
  obtain ⟨hk,hO⟩:=hp
  have hlen:=hO.len
  have hhl:=hO.hlen
  refine Aj (Gr (Bi C C) (Ah (Au (Bd C (λc23=>?_) (λc23=>?_)))))
  ·refine A4 (Ai (Au (A6 (Aj (Gr (A2 (α:=Arc) (xs:=n.arcs) Dx ty305 C C (Bj hl) om om) (Gr (B7 (α:=Arc) (xs:=n.arcs) ty305 C (Bj hl) om om) ?_))))))
   have hb:=hok.arc (e_ n.arcs k) (Cq om om)
   have hb1:=hO.bnd _ hb.1.1 hb.1.2
   have hb2:=hO.bnd _ hb.2.1.1 hb.2.1.2
   refine Ge1 (A9 ty305 C) λb38=>Ge0 (Es3_3 ty305) ?_
   refine Ah (Au (Bt mixed (C9 (e8 b38 [e7 ((e_ n.arcs k).frm),e7 ((e_ n.arcs k).dst),e7 ((e_ n.arcs k).cap)] 305::vc 336 (.slice ah hs.length ch) (hs)::e8 b [.slice ah hs.length ch,.slice ao (replicate n.nodes.toNat (default:Row)).length co,.slice al (replicate n.nodes.toNat (default:Int)).length cl,.slice an (replicate n.nodes.toNat (default:Int)).length cn,e7 (n.sink)] 339::vc 22 (.slice ao (replicate n.nodes.toNat (default:Row)).length co) (rs)::vc 3 (.slice al (replicate n.nodes.toNat (default:Int)).length cl) (replicate n.nodes.toNat (default:Int))::vc 3 (.slice an (replicate n.nodes.toNat (default:Int)).length cn) (replicate n.nodes.toNat (default:Int))::e8 b1 [e7 (n.nodes),e7 (n.source),e7 (n.sink),v] 303::I) 22 (Dr 0 C (Af C) (Dr 1 C (Br C) (Dr 2 C (Ab fld339_1 C) (Dr 3 C (As ty79) ?_)))))))
   refine Dr 4 C (Ab fld305_0 C) (Dr 5 C (As ef) ?_)
   refine Dr 6 C (Af C) (Dr 7 C (Br C) (Dr 8 C (Ab fld339_1 C) (Dr 9 C (As ty79) ?_)))
   refine Dr 10 C (Ab fld305_0 C) (Dr 11 C (As ef) ?_)
   refine Dr 12 C (A2 (α:=Row) (xs:=rs) B5 ty22 C C Bk om om) (Dr 13 C (Ct (α:=Row) (xs:=rs) (u:= .slice (e_ rs ((e_ n.arcs k).frm)).a (e_ rs ((e_ n.arcs k).frm)).xs.length (e_ rs ((e_ n.arcs k).frm)).c) ty22 C Bk om om C) (Dr 14 C (Af C) (Dr 15 C (Br C) (Dr 16 C (Ab fld339_0 C) (Dr 17 C (As ty337) ?_)))))
   refine Dr 18 C (Bz Co C) (Ds1 19 (Se1 C (Cj (α:=Int) (cs:=[_]) (xs:=[((hs.length:Nat):Int)]) Ad ef C C dc dc C C C C) λad39=>?_))
   refine Ds1 20 (Se2 C (Cn (α:=Int) (e:=3) (xs:=(e_ rs ((e_ n.arcs k).frm)).xs) (ys:=([((hs.length:Nat):Int)]:List Int)) Ad ef C C C (by repeat (first|exact rowsI_mem (rs:=rs) (i:=((e_ n.arcs k).frm)) om om|apply List.mem_cons_of_mem)) Bk lcn dc C (λ_ _=>(by repeat (first|exact At.rows (rs:=rs) (i:=((e_ n.arcs k).frm)) om om|apply At.tail)))) λad40 cp41=>?_)
   refine Dr 21 C (A2 (α:=Row) (xs:=rs) B5 ty22 C C Bk om om) (Dc kr ?_)
   refine Ae 22 C (Cy (α:=Row) (xs:=rs) (e:=22) (new:=(⟨ad40,cp41,((e_ rs ((e_ n.arcs k).frm)).xs++([((hs.length:Nat):Int)]:List Int))⟩:Row)) ty22 C C C om om am) ?_
   rintro _ _ ⟨rfl,rfl⟩
   have hsl:(List.set rs ((e_ n.arcs k).frm).toNat (⟨ad40,cp41,((e_ rs ((e_ n.arcs k).frm)).xs++([((hs.length:Nat):Int)]:List Int))⟩:Row)).length=rs.length:=List.length_set
   have hsd:e_ (List.set rs ((e_ n.arcs k).frm).toNat (⟨ad40,cp41,((e_ rs ((e_ n.arcs k).frm)).xs++([((hs.length:Nat):Int)]:List Int))⟩:Row)) (e_ n.arcs k).dst=e_ rs (e_ n.arcs k).dst:=by rw [Dh rs _ _ _ hb.1.1 hb.2.1.1 om,if_neg hb.2.2.1]
   have hsx:(e_ (List.set rs ((e_ n.arcs k).frm).toNat (⟨ad40,cp41,((e_ rs ((e_ n.arcs k).frm)).xs++([((hs.length:Nat):Int)]:List Int))⟩:Row)) (e_ n.arcs k).dst).xs.length<=2*k:=by rw [hsd];exact hb2
   refine De kr ?_
   refine Ai (Av (S5 5 3 20 21 22 C C C C C) (Au (Bt mixed (C9 (vc 3 (.slice ad39 1 1) (([((hs.length:Nat):Int)]:List Int))::e8 b38 [e7 ((e_ n.arcs k).frm),e7 ((e_ n.arcs k).dst),e7 ((e_ n.arcs k).cap)] 305::vc 336 (.slice ah hs.length ch) (hs)::e8 b [.slice ah hs.length ch,.slice ao (replicate n.nodes.toNat (default:Row)).length co,.slice al (replicate n.nodes.toNat (default:Int)).length cl,.slice an (replicate n.nodes.toNat (default:Int)).length cn,e7 (n.sink)] 339::vc 22 (.slice ao (replicate n.nodes.toNat (default:Row)).length co) (List.set rs ((e_ n.arcs k).frm).toNat (⟨ad40,cp41,((e_ rs ((e_ n.arcs k).frm)).xs++([((hs.length:Nat):Int)]:List Int))⟩:Row))::vc 3 (.slice al (replicate n.nodes.toNat (default:Int)).length cl) (replicate n.nodes.toNat (default:Int))::vc 3 (.slice an (replicate n.nodes.toNat (default:Int)).length cn) (replicate n.nodes.toNat (default:Int))::e8 b1 [e7 (n.nodes),e7 (n.source),e7 (n.sink),v] 303::I) 23 (Dr 0 C (Af C) (Dr 1 C (Br C) (Dr 2 C (Ab fld339_1 C) (Dr 3 C (As ty79) ?_))))))))
   refine Dr 4 C (Ab fld305_1 C) (Dr 5 C (As ef) ?_)
   refine Dr 6 C (Af C) (Dr 7 C (Br C) (Dr 8 C (Ab fld339_1 C) (Dr 9 C (As ty79) ?_)))
   refine Dr 10 C (Ab fld305_1 C) (Dr 11 C (As ef) ?_)
   refine Dr 12 C (A2 (α:=Row) (xs:=List.set rs ((e_ n.arcs k).frm).toNat (⟨ad40,cp41,((e_ rs ((e_ n.arcs k).frm)).xs++([((hs.length:Nat):Int)]:List Int))⟩:Row)) B5 ty22 C C Bk om om) (Dr 13 C (Ct (α:=Row) (xs:=List.set rs ((e_ n.arcs k).frm).toNat (⟨ad40,cp41,((e_ rs ((e_ n.arcs k).frm)).xs++([((hs.length:Nat):Int)]:List Int))⟩:Row)) (u:= .slice (e_ (List.set rs ((e_ n.arcs k).frm).toNat (⟨ad40,cp41,((e_ rs ((e_ n.arcs k).frm)).xs++([((hs.length:Nat):Int)]:List Int))⟩:Row)) ((e_ n.arcs k).dst)).a (e_ (List.set rs ((e_ n.arcs k).frm).toNat (⟨ad40,cp41,((e_ rs ((e_ n.arcs k).frm)).xs++([((hs.length:Nat):Int)]:List Int))⟩:Row)) ((e_ n.arcs k).dst)).xs.length (e_ (List.set rs ((e_ n.arcs k).frm).toNat (⟨ad40,cp41,((e_ rs ((e_ n.arcs k).frm)).xs++([((hs.length:Nat):Int)]:List Int))⟩:Row)) ((e_ n.arcs k).dst)).c) ty22 C Bk om om C) (Dr 14 C (Af C) (Dr 15 C (Br C) (Dr 16 C (Ab fld339_0 C) (Dr 17 C (As ty337) ?_)))))
   refine Dr 18 C (Bz Co C) (Dr 19 C (Rad C C) (Ds1 20 (Se1 C (Cj (α:=Int) (cs:=[_]) (xs:=[((hs.length:Nat):Int)+1]) Ad ef C C dc dc C C C C) λad42=>?_)))
   refine Ds1 21 (Se2 C (Cn (α:=Int) (e:=3) (xs:=(e_ (List.set rs ((e_ n.arcs k).frm).toNat (⟨ad40,cp41,((e_ rs ((e_ n.arcs k).frm)).xs++([((hs.length:Nat):Int)]:List Int))⟩:Row)) ((e_ n.arcs k).dst)).xs) (ys:=([((hs.length:Nat):Int)+1]:List Int)) Ad ef C C C (by repeat (first|exact rowsI_mem (rs:=(List.set rs ((e_ n.arcs k).frm).toNat (⟨ad40,cp41,((e_ rs ((e_ n.arcs k).frm)).xs++([((hs.length:Nat):Int)]:List Int))⟩:Row))) (i:=((e_ n.arcs k).dst)) om om|apply List.mem_cons_of_mem)) Bk lcn dc C (λ_ _=>(by repeat (first|exact At.rows (rs:=(List.set rs ((e_ n.arcs k).frm).toNat (⟨ad40,cp41,((e_ rs ((e_ n.arcs k).frm)).xs++([((hs.length:Nat):Int)]:List Int))⟩:Row))) (i:=((e_ n.arcs k).dst)) om om|apply At.tail)))) λad43 cp44=>?_)
   refine Dr 22 C (A2 (α:=Row) (xs:=List.set rs ((e_ n.arcs k).frm).toNat (⟨ad40,cp41,((e_ rs ((e_ n.arcs k).frm)).xs++([((hs.length:Nat):Int)]:List Int))⟩:Row)) B5 ty22 C C Bk om om) (Dc kr ?_)
   refine Ae 23 C (Cy (α:=Row) (xs:=List.set rs ((e_ n.arcs k).frm).toNat (⟨ad40,cp41,((e_ rs ((e_ n.arcs k).frm)).xs++([((hs.length:Nat):Int)]:List Int))⟩:Row)) (e:=22) (new:=(⟨ad43,cp44,((e_ (List.set rs ((e_ n.arcs k).frm).toNat (⟨ad40,cp41,((e_ rs ((e_ n.arcs k).frm)).xs++([((hs.length:Nat):Int)]:List Int))⟩:Row)) ((e_ n.arcs k).dst)).xs++([((hs.length:Nat):Int)+1]:List Int))⟩:Row)) ty22 C C C om om am) ?_
   rintro _ _ ⟨rfl,rfl⟩
   refine De kr ?_
   refine Ai (Av (S5 5 3 20 21 22 C C C C C) (Bt mixed (C9 (vc 3 (.slice ad42 1 1) (([((hs.length:Nat):Int)+1]:List Int))::vc 3 (.slice ad39 1 1) (([((hs.length:Nat):Int)]:List Int))::e8 b38 [e7 ((e_ n.arcs k).frm),e7 ((e_ n.arcs k).dst),e7 ((e_ n.arcs k).cap)] 305::e8 b [.slice ah hs.length ch,.slice ao (replicate n.nodes.toNat (default:Row)).length co,.slice al (replicate n.nodes.toNat (default:Int)).length cl,.slice an (replicate n.nodes.toNat (default:Int)).length cn,e7 (n.sink)] 339::vc 22 (.slice ao (replicate n.nodes.toNat (default:Row)).length co) (List.set (List.set rs ((e_ n.arcs k).frm).toNat (⟨ad40,cp41,((e_ rs ((e_ n.arcs k).frm)).xs++([((hs.length:Nat):Int)]:List Int))⟩:Row)) ((e_ n.arcs k).dst).toNat (⟨ad43,cp44,((e_ (List.set rs ((e_ n.arcs k).frm).toNat (⟨ad40,cp41,((e_ rs ((e_ n.arcs k).frm)).xs++([((hs.length:Nat):Int)]:List Int))⟩:Row)) ((e_ n.arcs k).dst)).xs++([((hs.length:Nat):Int)+1]:List Int))⟩:Row))::vc 3 (.slice al (replicate n.nodes.toNat (default:Int)).length cl) (replicate n.nodes.toNat (default:Int))::vc 3 (.slice an (replicate n.nodes.toNat (default:Int)).length cn) (replicate n.nodes.toNat (default:Int))::e8 b1 [e7 (n.nodes),e7 (n.source),e7 (n.sink),v] 303::(rowsI (List.set (List.set rs ((e_ n.arcs k).frm).toNat (⟨ad40,cp41,((e_ rs ((e_ n.arcs k).frm)).xs++([((hs.length:Nat):Int)]:List Int))⟩:Row)) ((e_ n.arcs k).dst).toNat (⟨ad43,cp44,((e_ (List.set rs ((e_ n.arcs k).frm).toNat (⟨ad40,cp41,((e_ rs ((e_ n.arcs k).frm)).xs++([((hs.length:Nat):Int)]:List Int))⟩:Row)) ((e_ n.arcs k).dst)).xs++([((hs.length:Nat):Int)+1]:List Int))⟩:Row))++I)) 19 (Dr 0 C (Af C) (Dr 1 C (Af C) (Dr 2 C (Br C) (Dr 3 C (Ab fld339_0 C) (Dr 4 C (As ty337) ?_))))))))
   refine Dr 5 C (Be (vs:=[_,_,_]) ty305) ?_
   refine Dr 6 C (Ab fld305_2 C) (Dr 7 C (As ef) ?_)
   refine Dr 8 C (Bc (cells:=[_,_,_,_]) ty336 Tryz.underlying336 pl336 C C) (Dr 9 C (Ab fld305_1 C) (Dr 10 C (As ef) ?_))
   refine Dr 11 C (Ab fld305_0 C) (Dr 12 C (As ef) ?_)
   refine Dr 13 C (Bc (cells:=[_,_,_]) ty305 Tryz.underlying305 pl305 C C) (Dr 14 C (Bc (cells:=[_,_,_,_]) ty336 Tryz.underlying336 pl336 C C) (Ds1 15 (Se1 C (Cj (α:=Half) (cs:=[e7 ((e_ n.arcs k).frm),e7 ((e_ n.arcs k).dst),e7 ((e_ n.arcs k).cap),e7 ((e_ n.arcs k).cap),e7 ((e_ n.arcs k).dst),e7 ((e_ n.arcs k).frm),e7 0,e7 0]) (xs:=[⟨(e_ n.arcs k).frm,(e_ n.arcs k).dst,(e_ n.arcs k).cap,(e_ n.arcs k).cap⟩,⟨(e_ n.arcs k).dst,(e_ n.arcs k).frm,0,0⟩]) Co ty336 C C dc dc C kr C C) λad45=>?_)))
   refine Ds1 16 (Se2 C (Cn (α:=Half) (e:=336) (xs:=hs) (ys:=([⟨(e_ n.arcs k).frm,(e_ n.arcs k).dst,(e_ n.arcs k).cap,(e_ n.arcs k).cap⟩,⟨(e_ n.arcs k).dst,(e_ n.arcs k).frm,0,0⟩]:List Half)) Co ty336 C C C mm Bk lcn dc C (λ_ _=>am)) λad46 cp47=>?_)
   refine Ds1 17 (Sr C (Br C) A5 ?_)
   refine Dr 18 C (Ab fld339_0 C) (Dc kr ?_)
   refine Ae 19 C (B4 (cs:=[_,_,_,_,_]) (vs:=[_]) (cs':=[_,_,_,_,_]) ty337) ?_
   rintro _ _ ⟨rfl,rfl⟩
   refine De kr ?_
   exact Ak (Ai (Av (S4 3 20 21 22 C C C C) (A0 (Gr (Rad C C) (Gm C (Bf (Ch ((k+1),(ad46),(cp47),(hs++([⟨(e_ n.arcs k).frm,(e_ n.arcs k).dst,(e_ n.arcs k).cap,(e_ n.arcs k).cap⟩,⟨(e_ n.arcs k).dst,(e_ n.arcs k).frm,0,0⟩]:List Half)),(List.set (List.set rs ((e_ n.arcs k).frm).toNat (⟨ad40,cp41,((e_ rs ((e_ n.arcs k).frm)).xs++([((hs.length:Nat):Int)]:List Int))⟩:Row)) ((e_ n.arcs k).dst).toNat (⟨ad43,cp44,((e_ (List.set rs ((e_ n.arcs k).frm).toNat (⟨ad40,cp41,((e_ rs ((e_ n.arcs k).frm)).xs++([((hs.length:Nat):Int)]:List Int))⟩:Row)) ((e_ n.arcs k).dst)).xs++([((hs.length:Nat):Int)+1]:List Int))⟩:Row))) (by dsimp only;exact ⟨om,(hO.step hok om _ _ _ _ om om C C)⟩))))))))
  ·refine Bp (Ac (Ac (Aw (Ai (Aj (Gm C (Ga C (Ah (Az ?_)))))))))
   have hdn:=hO.done hok om
   exact Ba C C (e8 b [.slice ah hs.length ch,.slice ao (replicate n.nodes.toNat (default:Row)).length co,.slice al (replicate n.nodes.toNat (default:Int)).length cl,.slice an (replicate n.nodes.toNat (default:Int)).length cn,e7 (n.sink)] 339::vc 336 (.slice ah hs.length ch) (hs)::vc 3 (.slice al (replicate n.nodes.toNat (default:Int)).length cl) (replicate n.nodes.toNat (default:Int))::vc 3 (.slice an (replicate n.nodes.toNat (default:Int)).length cn) (replicate n.nodes.toNat (default:Int))::vc 22 (.slice ao (replicate n.nodes.toNat (default:Row)).length co) (rs)::(rowsI rs++I)) Bv ⟨_,_,_,_,_,hs,rs,(replicate n.nodes.toNat (default:Int)),(replicate n.nodes.toNat (default:Int)),rfl,⟨hdn.1,hdn.2,by rw [List.length_replicate];omega,by rw [List.length_replicate];omega⟩,rfl⟩
theorem Solved_ok{κ:Ctx}{I:List Item}{n:Net}{v:Value}(hl:Sl κ I v n.arcs)(hok:n.Ok):eu Tryz.prog κ 317 [.agg #[e7 (n.nodes),e7 (n.source),e7 (n.sink),v]] I (λr J=>∃(b:Nat) (hw ow lw nw:Value) (f:List Int) (hs:List Half) (rs:List Row) (L nx:List Int) (val:Int),r = .tuple #[.pointer (some ⟨b,0,none⟩),e7 val]/\(Full n f val/\HOk n f hs/\ROk n (rowsL rs))/\J=e8 b [hw,ow,lw,nw,e7 (n.sink)] 339::vc 336 hw (hs)::vc 3 lw (L)::vc 3 nw (nx)::(vc 22 ow rs::(rowsI rs++I))):=by
 refine Ce1 Tryz.func317 C C ?_
 refine Aj (Ge1 (Bg (cs:=[_,_,_,_]) C C C) λb1=>Ga C (Ga C (Ah (Aj (Gl4 ty303 ?_)))))
 refine G.e (Am call335 C C (Open_ok (n:=n) (Bj hl) hok)) ?_
 rintro _ _ ⟨_,_,⟨b,hw,ow,lw,nw,hs,rs,L,nx,rfl,⟨hh,hr,hL,hN⟩,rfl⟩,rfl,rfl⟩
 refine G.fit (J:=e8 b [hw,ow,lw,nw,e7 (n.sink)] 339::vc 336 hw (hs)::vc 3 lw (L)::vc 3 nw (nx)::vc 22 ow (rs)::e8 b1 [e7 (n.nodes),e7 (n.source),e7 (n.sink),v] 303::(rowsI rs++I)) Bv ?_
 refine Ga C (Ah (Aj (Gm C (Gm C (Gf fld303_1 C (Gl ef ?_))))))
 refine G.e (Am call336 C C (Greatest_ok (n:=n) hok hh hr Bk (λi h0 h=>Ce (rowsI_sl i h0 h) Ay) hL hN (flow_zero n hok).1 (flow_zero n hok).2)) ?_
 rintro _ _ ⟨_,_,⟨val,f,hs2,L2,nx2,rfl,⟨hfull,hh2⟩,rfl⟩,rfl,rfl⟩
 exact Ga C (Ga C (Ah (Av (S2 3 2 C C) (Az (C4 C C C (e8 b [hw,ow,lw,nw,e7 (n.sink)] 339::vc 336 hw (hs2)::vc 3 lw (L2)::vc 3 nw (nx2)::vc 22 ow (rs)::(rowsI rs++I)) Bv ⟨b,hw,ow,lw,nw,f,hs2,rs,L2,nx2,val,rfl,⟨hfull,hh2,hr⟩,rfl⟩)))))
end Go.Sl
