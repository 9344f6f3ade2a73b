/- A part of the proofs of statements of this seat: contracts of functions, and the plain laws that they lean on. No conditions. -/
import Derived.Test.YtfkcohmipjhfcaaGreatDoorA11
set_option linter.unusedVariables false
set_option linter.unusedSimpArgs false
set_option linter.unusedSectionVars false
namespace Go.Sl
open Go.Proofs
set_option maxRecDepth 4000
theorem PushR.sink{n:Net}{rs:List (List Int)}{L f nx:List Int}{v:Int}(e:v=n.sink)(hl:f.length=n.arcs.length)(hc:CapF n f)(hd:Dead n rs L f nx)(hx:∀z:Int,0≤z→z<n.nodes→0≤at_ nx z)(d:Int):PushR n rs L v d f nx f nx:=
 ⟨hl,hc,fun z=>by rw [e];omega,Less.refl _ _ _,fun _ _ _=>rfl,hd,rfl,hx,fun _ _ _ _ _=>rfl,fun _=>rfl⟩
def PushC(κ:Ctx)(I:List Item)(n:Net)(rs:List Row)(b:Nat)(hw ow lw nw:Value)(L:List Int)(lv:Int):Prop:=
 ∀(v most:Int) (f nx:List Int) (hs:List Half),at_ L v=lv→0≤v→v<n.nodes→0≤at_ L v→1≤most→most≤4611686018427387904→HOk n f hs→Dead n (rowsL rs) L f nx→(∀z:Int,0≤z→z<n.nodes→0≤at_ nx z)→((nx.length:Nat):Int)=n.nodes→CallS Tryz.prog κ 342 [.pointer (some ⟨b,0,none⟩),I64 v,I64 most] (blk b [hw,ow,lw,nw,I64 (n.sink)] 339::vc 336 (hw) (hs)::vc 3 (lw) (L)::vc 3 (nw) (nx)::I) (fun r J=>∃(d:Int) (f':List Int) (hs':List Half) (nx':List Int),r=I64 d∧((0≤d∧d≤most)∧PushR n (rowsL rs) L v d f nx f' nx'∧HOk n f' hs'∧(d<most→¬Adm n f' L v))∧J=blk b [hw,ow,lw,nw,I64 (n.sink)] 339::vc 336 (hw) (hs')::vc 3 (lw) (L)::vc 3 (nw) (nx')::I)
theorem Push_step{κ:Ctx}{I:List Item}{n:Net}{f:List Int}{hs:List Half}{rs:List Row}{b:Nat}{hw ow lw nw:Value}{L nx:List Int}{v most lv:Int}(hok:n.Ok)(hr:ROk n (rowsL rs))(ho:Sl κ I ow rs)(hrow:∀i:Int,0≤i→i<rs.length→Sl κ I (.slice (at_ rs i).a (at_ rs i).xs.length (at_ rs i).c) (at_ rs i).xs)(hL:(L.length:Int)=n.nodes)(hlow:∀z:Int,0≤z→z<n.nodes→ -1≤at_ L z∧at_ L z<n.nodes)(ih:PushC κ I n rs b hw ow lw nw L (lv+1))(hlv:at_ L v=lv)(hv0:0≤v)(hv1:v<n.nodes)(hLv:0≤at_ L v)(hm0:1≤most)(hm1:most≤4611686018427387904)(hh:HOk n f hs)(hD:Dead n (rowsL rs) L f nx)(hx:∀z:Int,0≤z→z<n.nodes→0≤at_ nx z)(hN:((nx.length:Nat):Int)=n.nodes) :
    CallS Tryz.prog κ 342 [.pointer (some ⟨b,0,none⟩),I64 (v),I64 (most)] (blk b [hw,ow,lw,nw,I64 (n.sink)] 339::vc 336 (hw) (hs)::vc 3 (lw) (L)::vc 3 (nw) (nx)::I) (fun r J=>∃(d:Int) (f':List Int) (hs':List Half) (nx':List Int),r=I64 d∧((0≤d∧d≤most)∧PushR n (rowsL rs) L v d f nx f' nx'∧HOk n f' hs'∧(d<most→¬Adm n f' L v))∧J=blk b [hw,ow,lw,nw,I64 (n.sink)] 339::vc 336 (hw) (hs')::vc 3 (lw) (L)::vc 3 (nw) (nx')::I):=by
 have hlim:=hok.lim
 have hsrc:=hok.src
 have hsnk:=hok.snk
 have hrl:=hr.rl
 have hLw:=(hlow v hv0 hv1).2
 refine B4 (fun w hs=>(Ch (hrow v om om) (by repeat (first|exact Fit.refl _|apply Fit.tail|exact Fit.appR _ _|apply Fit.appL))).le w hs) fun hrm=>?_
 refine Ce3 Tryz.func342 rfl rfl ?_
 refine Ah (Ga rfl (Af (Ao (Ah (Gm rfl (Gm rfl (Gr (Bk rfl) (Gf fld339_4 rfl (Gl ty3 ?_)))))))))
 refine Gr (Bs rfl rfl) (Af (A9 rfl (fun c16=>?_) (fun c16=>?_)))
 ·exact Ah (Gm rfl (Ga rfl (Af (A2 (Al (A7 rfl rfl (blk b [hw,ow,lw,nw,I64 (n.sink)] 339::vc 336 (hw) (hs)::vc 3 (lw) (L)::vc 3 (nw) (nx)::I) Ay ⟨most,f,hs,nx,rfl,⟨⟨by omega,by omega⟩,PushR.sink c16 hh.flen hh.cap hD hx most,hh,fun h=>by omega⟩,rfl⟩))))))
 ·refine A0 (Ai (Ah (Ga rfl (Af (Ao (Ax (Bx (σ:=Int×(List Int)×(List Half)×(List Int)) (fun s=>([(0,.pointer (some ⟨b,0,none⟩)),(1,I64 (v)),(2,I64 (most)),(7,I64 (s.1))]:Env)) (fun s=>blk b [hw,ow,lw,nw,I64 (n.sink)] 339::vc 336 (hw) (s.2.2.1)::vc 3 (lw) (L)::vc 3 (nw) (s.2.2.2)::I) (fun s=>(0≤s.1)∧(s.1≤most)∧(PushR n (rowsL rs) L v s.1 f nx s.2.1 s.2.2.2)∧(HOk n s.2.1 s.2.2.1)) (fun s=>((at_ rs v).xs.length - at_ s.2.2.2 v).toNat) (0,f,hs,nx) (show (0≤(0:Int))∧((0:Int)≤most)∧(PushR n (rowsL rs) L v (0:Int) f nx (f:List Int) (nx:List Int))∧(HOk n (f:List Int) (hs:List Half)) from ⟨om,om,(PushR.start hh.flen hh.cap hD hx v),hh⟩) (Ac rfl (Ac rfl (Ac rfl (Ac Cb Bq)))) (show Fit κ _ (blk b [hw,ow,lw,nw,I64 (n.sink)] 339::vc 336 (hw) ((hs))::vc 3 (lw) (L)::vc 3 (nw) ((nx))::I) from Ay) ?_)))))))
  rintro ⟨sent,f1,hs1,nx1⟩ hp
  dsimp only at hp ⊢
  obtain ⟨hs0,hs9,hP,hH1⟩:=hp
  have hnl:=hP.nlen
  have hnx0:=hP.nge v hv0 hv1
  have hhl:=hH1.len
  refine Ao (Ao (Bo mixed (Bu (blk b [hw,ow,lw,nw,I64 (n.sink)] 339::vc 336 (hw) (hs1)::vc 3 (lw) (L)::vc 3 (nw) (nx1)::I) 21 (Dr 0 rfl (Ad rfl) (Dr 1 rfl (Bk rfl) (Dr 2 rfl (Aa fld339_3 rfl) (Dr 3 rfl (Au ty22) ?_)))))))
  refine Dr 4 rfl (Ad rfl) (Dr 5 rfl (A8 (α:=Int) (xs:=nx1) Ab ty3 rfl rfl Br om om) (Dr 6 rfl (B2 (xs:=nx1) ty3 rfl Br om om) (Dr 7 rfl (Ad rfl) (Dr 8 rfl (Bk rfl) (Dr 9 rfl (Aa fld339_1 rfl) (Dr 10 rfl (Au ty79) ?_))))))
  refine Dr 11 rfl (Ad rfl) (Dr 12 rfl (A8 (α:=Row) (xs:=rs) Bp ty22 rfl rfl (Bf ho) om om) (Dr 13 rfl (Cs (α:=Row) (xs:=rs) (u:= .slice (at_ rs v).a (at_ rs v).xs.length (at_ rs v).c) ty22 rfl (Bf ho) om om rfl) (Dr 14 rfl (Bw Ab rfl) (Dr 15 rfl (Bc rfl rfl) (Dr 16 rfl (Ad rfl) (D1 (d:=34) rfl (fun g34=>?_) (fun g34=>?_)))))))
  ·refine Dro 17 rfl (Ad rfl) (Dro 18 rfl (Ad rfl) (Dro 19 rfl (Bc rfl rfl) (Dr 20 rfl (Ap rfl rfl) (Dz (Ai (As (S5 38 0 1 2 7 rfl rfl rfl rfl rfl) (A9 rfl (fun c38=>?_) (fun c38=>?_))))))))
   ·refine A0 (Ai (W.cut (σ:=Int×(List Int)×(List Half)×(List Int)) (fun s=>([(0,.pointer (some ⟨b,0,none⟩)),(1,I64 (v)),(2,I64 (most)),(7,I64 (s.1))]:Env)) (fun s=>blk b [hw,ow,lw,nw,I64 (n.sink)] 339::vc 336 (hw) (s.2.2.1)::vc 3 (lw) (L)::vc 3 (nw) (s.2.2.2)::I) (fun s=>(0≤s.1∧s.1≤most)∧(PushR n (rowsL rs) L v s.1 f nx s.2.1 s.2.2.2)∧(HOk n s.2.1 s.2.2.1)∧(at_ s.2.2.2 v=at_ nx1 v)∧(¬(0<leftH n s.2.1 (at_ (at_ rs v).xs (at_ s.2.2.2 v))∧at_ L (toH n (at_ (at_ rs v).xs (at_ s.2.2.2 v)))=at_ L v+1∧Adm n s.2.1 L (toH n (at_ (at_ rs v).xs (at_ s.2.2.2 v)))))) ?_ ?_))
    ·refine Ax (Ao (Bo mixed (Bu (blk b [hw,ow,lw,nw,I64 (n.sink)] 339::vc 336 (hw) (hs1)::vc 3 (lw) (L)::vc 3 (nw) (nx1)::I) 17 (Dr 0 rfl (Ad rfl) (Dr 1 rfl (Bk rfl) (Dr 2 rfl (Aa fld339_1 rfl) (Dr 3 rfl (Au ty79) ?_)))))))
     refine Dr 4 rfl (Ad rfl) (Dr 5 rfl (A8 (α:=Row) (xs:=rs) Bp ty22 rfl rfl (Bf ho) om om) (Dr 6 rfl (Cs (α:=Row) (xs:=rs) (u:= .slice (at_ rs v).a (at_ rs v).xs.length (at_ rs v).c) ty22 rfl (Bf ho) om om rfl) (Dr 7 rfl (Ad rfl) (Dr 8 rfl (Bk rfl) (Dr 9 rfl (Aa fld339_3 rfl) (Dr 10 rfl (Au ty22) ?_))))))
     refine Dr 11 rfl (Ad rfl) (Dr 12 rfl (A8 (α:=Int) (xs:=nx1) Ab ty3 rfl rfl Br om om) ?_)
     have hm:=hr.row hv0 hv1 (j:=at_ nx1 v) om om
     have hg:=hH1.get _ hm.1
     have hfo:=from_ok hok hm.1
     have hi2:0≤(at_ (at_ rs v).xs (at_ nx1 v))∧(at_ (at_ rs v).xs (at_ nx1 v))<2*n.arcs.length:=hm.1
     have hlk:=left_ok hH1.cap hm.1
     have hak:=(arc_ok hok hm.1.half.1 hm.1.half.2).2.2.2
     have hd:at_ L (at_ hs1 (at_ (at_ rs v).xs (at_ nx1 v))).dst=at_ L (toH n (at_ (at_ rs v).xs (at_ nx1 v))):=by rw [hg.2.1]
     refine Dr 13 rfl (B2 (xs:=nx1) ty3 rfl Br om om) (Dr 14 rfl (A8 (α:=Int) (xs:=(at_ rs v).xs) Ab ty3 rfl rfl (Ch (hrow v om om) A4) om om) (Dr 15 rfl (B2 (xs:=(at_ rs v).xs) ty3 rfl (Ch (hrow v om om) A4) om om) (Dr 16 rfl (Bd rfl) (Dz (Ai (As (S5 8 0 1 2 7 rfl rfl rfl rfl rfl) (Ah (Gm rfl (Gr (Bk rfl) (Gf fld339_0 rfl (Gl ty337 ?_)))))))))))
     refine Gm rfl (Gr (A8 (α:=Half) (xs:=hs1) Ce ty336 rfl rfl Br om om) (Gr (B0 (α:=Half) (xs:=hs1) ty336 rfl Br om om) (Ge1 (A5 ty336 rfl) fun b1=>Ge0 (Es4_4 ty336) ?_)))
     refine Af (Ao (Ao (Bo mixed (Bu (blk b1 [I64 ((at_ hs1 (at_ ((at_ rs v).xs) (at_ nx1 v))).frm),I64 ((at_ hs1 (at_ ((at_ rs v).xs) (at_ nx1 v))).dst),I64 ((at_ hs1 (at_ ((at_ rs v).xs) (at_ nx1 v))).cap),I64 ((at_ hs1 (at_ ((at_ rs v).xs) (at_ nx1 v))).left)] 336::blk b [hw,ow,lw,nw,I64 (n.sink)] 339::vc 336 (hw) (hs1)::vc 3 (lw) (L)::vc 3 (nw) (nx1)::I) 23 (Dr 0 rfl (Aa fld336_1 rfl) (Dr 1 rfl (Au ty3) ?_))))))
     refine Dr 2 rfl (Bs rfl rfl) (Dr 3 rfl (Ad rfl) (D1 (d:=74) rfl (fun g74=>?_) (fun g74=>?_)))
     ·exact Dpo 4 rfl (Dpo 5 rfl (Dpo 6 rfl (Dpo 7 rfl (Dpo 8 rfl (Dpo 9 rfl (Dpo 10 rfl (Dpo 11 rfl (Dpo 12 rfl (Dpo 13 rfl (Dpo 14 rfl (Dpo 15 rfl (Dpo 16 rfl (Dpo 17 rfl (Dpo 18 rfl (Dpo 19 rfl (Dpo 20 rfl (Dpo 21 rfl (Dr 22 rfl (Ap rfl rfl) (Dz (Ai (As (S7 93 9 8 0 1 2 7 rfl rfl rfl rfl rfl rfl rfl) (Cl rfl (Bt (Ak (A6 (Ep ((sent),(f1),(hs1),(nx1)) (by dsimp only;exact ⟨om,(by first|exact hP|exact hput.1),(by first|exact hH1|exact hHp),(by first|rfl|exact hput.2.1),(by first|(rintro ⟨a,b,c⟩;omega)|(rw [hput.2.1];have hused2:=hused c135;rw [hm.2] at hused2;exact hused2))⟩)))))))))))))))))))))))))))
     ·refine Dro 4 rfl (Ad rfl) (Dro 5 rfl (Bk rfl) (Dro 6 rfl (Aa fld339_2 rfl) (Dro 7 rfl (Au ty22) ?_)))
      refine Dro 8 rfl (Aa fld336_0 rfl) (Dro 9 rfl (Aa fld305_1 rfl) (Dro 10 rfl (Au ty3) ?_))
      refine Dro 11 rfl (A8 (α:=Int) (xs:=L) Ab ty3 rfl rfl Br om om) (Dro 12 rfl (B2 (xs:=L) ty3 rfl Br om om) (Dro 13 rfl (Ad rfl) (Dro 14 rfl (Bk rfl) (Dro 15 rfl (Aa fld339_2 rfl) (Dro 16 rfl (Au ty22) ?_)))))
      refine Dro 17 rfl (Ad rfl) (Dro 18 rfl (A8 (α:=Int) (xs:=L) Ab ty3 rfl rfl Br om om) (Dro 19 rfl (B2 (xs:=L) ty3 rfl Br om om) (Dro 20 rfl (Rad rfl rfl) (Dro 21 rfl (Bv rfl rfl) (Dr 22 rfl (Av rfl rfl) (Dz (Ai (As (S7 93 9 8 0 1 2 7 rfl rfl rfl rfl rfl rfl rfl) (A9 rfl (fun c93=>?_) (fun c93=>?_))))))))))
      ·exact Bt (Ak (A6 (Ep ((sent),(f1),(hs1),(nx1)) (by dsimp only;exact ⟨om,(by first|exact hP|exact hput.1),(by first|exact hH1|exact hHp),(by first|rfl|exact hput.2.1),(by first|(rintro ⟨a,b,c⟩;omega)|(rw [hput.2.1];have hused2:=hused c135;rw [hm.2] at hused2;exact hused2))⟩))))
      ·refine A0 (Ai (Ah (Gm rfl (Gf fld336_0 rfl (Gf fld305_1 rfl (Gl ty3 ?_))))))
       refine Gm rfl (Gm rfl (Gr (Rsu rfl rfl) (Gf fld336_1 rfl (Gl ty3 ?_))))
       refine Gr (Runs.min rfl rfl) (G.e (Am call342 rfl rfl (Cn (J:=blk b [hw,ow,lw,nw,I64 (n.sink)] 339::vc 336 (hw) (hs1)::vc 3 (lw) (L)::vc 3 (nw) (nx1)::I) Ay (ih (at_ hs1 (at_ (at_ rs v).xs (at_ nx1 v))).dst (if ((at_ hs1 (at_ ((at_ rs v).xs) (at_ nx1 v))).left)<(most - sent) then ((at_ hs1 (at_ ((at_ rs v).xs) (at_ nx1 v))).left) else (most - sent)) f1 nx1 hs1 om om om om (by split<;>omega) (by split<;>omega) hH1 hP.dead hP.nge om))) ?_)
       rintro _ _ ⟨_,_,⟨d2,f3,hs4,nx5,rfl,⟨hbd2,hPd2,hHd2,hAd2⟩,rfl⟩,rfl,rfl⟩
       show G Tryz.prog κ _ _ _ _ ([(104,I64 (d2)),(103,I64 (if ((at_ hs1 (at_ ((at_ rs v).xs) (at_ nx1 v))).left)<(most - sent) then ((at_ hs1 (at_ ((at_ rs v).xs) (at_ nx1 v))).left) else (most - sent))),(102,I64 ((at_ hs1 (at_ ((at_ rs v).xs) (at_ nx1 v))).left)),(101,.pointer (some ⟨b1,3,none⟩)),(100,I64 (most - sent)),(99,I64 (sent)),(98,I64 (most)),(97,I64 ((at_ hs1 (at_ ((at_ rs v).xs) (at_ nx1 v))).dst)),(96,.pointer (some ⟨b1,1,none⟩)),(95,.pointer (some ⟨b1,0,none⟩)),(94,.pointer (some ⟨b,0,none⟩)),(93,.bool (decide ((at_ L ((at_ hs1 (at_ ((at_ rs v).xs) (at_ nx1 v))).dst))≠((at_ L v)+1)))),(9,.pointer (some ⟨b1,0,none⟩)),(8,I64 (at_ ((at_ rs v).xs) (at_ nx1 v))),(0,.pointer (some ⟨b,0,none⟩)),(1,I64 (v)),(2,I64 (most)),(7,I64 (sent))]:Env) (blk b [hw,ow,lw,nw,I64 (n.sink)] 339::vc 336 (hw) (hs4)::vc 3 (lw) (L)::vc 3 (nw) (nx5)::I)
       rw [hg.2.1] at hPd2 hAd2
       have hL1:at_ L (toH n (at_ (at_ rs v).xs (at_ nx1 v)))=at_ L v+1:=by omega
       have hle:d2≤(if (at_ hs1 (at_ (at_ rs v).xs (at_ nx1 v))).left<most - sent then (at_ hs1 (at_ (at_ rs v).xs (at_ nx1 v))).left else most - sent):=hbd2.2
       have hle2:d2≤(at_ hs1 (at_ (at_ rs v).xs (at_ nx1 v))).left∧d2≤most - sent:=by revert hle;split<;>omega
       have hput:=hP.put hok hr hm.1 hm.2 hL1 hs0 hbd2.1 om hPd2
       have hg2:=hHd2.get _ hm.1
       have hg3:=hHd2.get _ hm.1.mate
       have hls:=left_sum n f3 (at_ (at_ rs v).xs (at_ nx1 v))
       have hhl2:=hHd2.len
       have hlk2:=left_ok hHd2.cap hm.1
       have hlk3:=left_ok hHd2.cap hm.1.mate
       have hmi:0≤mateH (at_ (at_ rs v).xs (at_ nx1 v))∧mateH (at_ (at_ rs v).xs (at_ nx1 v))<2*n.arcs.length:=hm.1.mate
       have hmh:=mate_half (at_ (at_ rs v).xs (at_ nx1 v))
       rw [hmh] at hlk3
       have hused:=fun (hne:¬sent+d2=most)=>PushR.used (e:=d2) (m:=(if (at_ hs1 (at_ (at_ rs v).xs (at_ nx1 v))).left<most - sent then (at_ hs1 (at_ (at_ rs v).xs (at_ nx1 v))).left else most - sent)) hm.1 (Decidable.byCases (fun h:d2<(if (at_ hs1 (at_ (at_ rs v).xs (at_ nx1 v))).left<most - sent then (at_ hs1 (at_ (at_ rs v).xs (at_ nx1 v))).left else most - sent)=> .inl h) (fun h=> .inr (by have hls2:=hput.2.2;revert h;split<;>omega))) (fun h=>hAd2 h) hPd2.len hbd2.1 (by rw [hm.2];exact hL1)
       refine Ga rfl (Af (As (S6 10 8 0 1 2 7 rfl rfl rfl rfl rfl rfl) (Ah (Gm rfl (Gr (Bk rfl) (Gf fld339_0 rfl (Gl ty337 ?_)))))))
       refine Gm rfl (Gr (A8 (α:=Half) (xs:=hs4) Ce ty336 rfl rfl Br om om) (Gr (Dq (α:=Half) (xs:=hs4) fld336_1 rfl Br om) (Gr (D6 (α:=Half) (xs:=hs4) (u:=I64 ((at_ hs4 (at_ ((at_ rs v).xs) (at_ nx1 v))).left)) ty3 rfl Br om om rfl) (Gm rfl (Gr (Rsu rfl rfl) (Gr (A8 (α:=Half) (xs:=hs4) Ce ty336 rfl rfl Br om om) (Gr (Dq (α:=Half) (xs:=hs4) fld336_1 rfl Br om) (Ge0 (Eff.setf (α:=Half) (xs:=hs4) (e:=336) (new:={at_ hs4 (at_ ((at_ rs v).xs) (at_ nx1 v)) with left:=((at_ hs4 (at_ ((at_ rs v).xs) (at_ nx1 v))).left) - d2}) (j:=3) ty3 rfl rfl rfl rfl dc rfl om om am) ?_))))))))
       have hmt:at_ (List.set hs4 (at_ ((at_ rs v).xs) (at_ nx1 v)).toNat ({at_ hs4 (at_ ((at_ rs v).xs) (at_ nx1 v)) with left:=((at_ hs4 (at_ ((at_ rs v).xs) (at_ nx1 v))).left) - d2})) (mateH (at_ (at_ rs v).xs (at_ nx1 v)))=at_ hs4 (mateH (at_ (at_ rs v).xs (at_ nx1 v))):=by rw [Dc hs4 _ _ _ om om om,if_neg (fun e=>mate_ne _ e.symm)]
       have hmt1:(at_ (List.set hs4 (at_ ((at_ rs v).xs) (at_ nx1 v)).toNat ({at_ hs4 (at_ ((at_ rs v).xs) (at_ nx1 v)) with left:=((at_ hs4 (at_ ((at_ rs v).xs) (at_ nx1 v))).left) - d2})) (mateH (at_ (at_ rs v).xs (at_ nx1 v)))).left=leftH n f3 (mateH (at_ (at_ rs v).xs (at_ nx1 v))):=by rw [hmt];exact hg3.2.2
       have hsl:(List.set hs4 (at_ ((at_ rs v).xs) (at_ nx1 v)).toNat ({at_ hs4 (at_ ((at_ rs v).xs) (at_ nx1 v)) with left:=((at_ hs4 (at_ ((at_ rs v).xs) (at_ nx1 v))).left) - d2})).length=hs4.length:=List.length_set
       refine Af (As (S6 10 8 0 1 2 7 rfl rfl rfl rfl rfl rfl) (Ah (Gm rfl (Gr (Bk rfl) (Gf fld339_0 rfl (Gl ty337 ?_))))))
       refine Gm rfl (Gr ((xor_mate (i:=at_ ((at_ rs v).xs) (at_ nx1 v)) om om)▸Runs.xorw rfl rfl) (Gr (A8 (α:=Half) (xs:=List.set hs4 (at_ ((at_ rs v).xs) (at_ nx1 v)).toNat ({at_ hs4 (at_ ((at_ rs v).xs) (at_ nx1 v)) with left:=((at_ hs4 (at_ ((at_ rs v).xs) (at_ nx1 v))).left) - d2})) Ce ty336 rfl rfl Br om om) (Gr (Dq (α:=Half) (xs:=List.set hs4 (at_ ((at_ rs v).xs) (at_ nx1 v)).toNat ({at_ hs4 (at_ ((at_ rs v).xs) (at_ nx1 v)) with left:=((at_ hs4 (at_ ((at_ rs v).xs) (at_ nx1 v))).left) - d2})) fld336_1 rfl Br om) (Gr (D6 (α:=Half) (xs:=List.set hs4 (at_ ((at_ rs v).xs) (at_ nx1 v)).toNat ({at_ hs4 (at_ ((at_ rs v).xs) (at_ nx1 v)) with left:=((at_ hs4 (at_ ((at_ rs v).xs) (at_ nx1 v))).left) - d2})) (u:=I64 ((at_ (List.set hs4 (at_ ((at_ rs v).xs) (at_ nx1 v)).toNat ({at_ hs4 (at_ ((at_ rs v).xs) (at_ nx1 v)) with left:=((at_ hs4 (at_ ((at_ rs v).xs) (at_ nx1 v))).left) - d2})) (mateH (at_ ((at_ rs v).xs) (at_ nx1 v)))).left)) ty3 rfl Br om om rfl) (Gm rfl (Gr (Rad rfl rfl) (Gr (A8 (α:=Half) (xs:=List.set hs4 (at_ ((at_ rs v).xs) (at_ nx1 v)).toNat ({at_ hs4 (at_ ((at_ rs v).xs) (at_ nx1 v)) with left:=((at_ hs4 (at_ ((at_ rs v).xs) (at_ nx1 v))).left) - d2})) Ce ty336 rfl rfl Br om om) (Gr (Dq (α:=Half) (xs:=List.set hs4 (at_ ((at_ rs v).xs) (at_ nx1 v)).toNat ({at_ hs4 (at_ ((at_ rs v).xs) (at_ nx1 v)) with left:=((at_ hs4 (at_ ((at_ rs v).xs) (at_ nx1 v))).left) - d2})) fld336_1 rfl Br om) (Ge0 (Eff.setf (α:=Half) (xs:=List.set hs4 (at_ ((at_ rs v).xs) (at_ nx1 v)).toNat ({at_ hs4 (at_ ((at_ rs v).xs) (at_ nx1 v)) with left:=((at_ hs4 (at_ ((at_ rs v).xs) (at_ nx1 v))).left) - d2})) (e:=336) (new:={at_ (List.set hs4 (at_ ((at_ rs v).xs) (at_ nx1 v)).toNat ({at_ hs4 (at_ ((at_ rs v).xs) (at_ nx1 v)) with left:=((at_ hs4 (at_ ((at_ rs v).xs) (at_ nx1 v))).left) - d2})) (mateH (at_ ((at_ rs v).xs) (at_ nx1 v))) with left:=((at_ (List.set hs4 (at_ ((at_ rs v).xs) (at_ nx1 v)).toNat ({at_ hs4 (at_ ((at_ rs v).xs) (at_ nx1 v)) with left:=((at_ hs4 (at_ ((at_ rs v).xs) (at_ nx1 v))).left) - d2})) (mateH (at_ ((at_ rs v).xs) (at_ nx1 v)))).left)+d2}) (j:=3) ty3 rfl rfl rfl rfl dc rfl om om am) ?_)))))))))
       have hHp:HOk n (pushF f3 (at_ (at_ rs v).xs (at_ nx1 v)) d2) (List.set (List.set hs4 (at_ ((at_ rs v).xs) (at_ nx1 v)).toNat ({at_ hs4 (at_ ((at_ rs v).xs) (at_ nx1 v)) with left:=((at_ hs4 (at_ ((at_ rs v).xs) (at_ nx1 v))).left) - d2})) (mateH (at_ ((at_ rs v).xs) (at_ nx1 v))).toNat ({at_ (List.set hs4 (at_ ((at_ rs v).xs) (at_ nx1 v)).toNat ({at_ hs4 (at_ ((at_ rs v).xs) (at_ nx1 v)) with left:=((at_ hs4 (at_ ((at_ rs v).xs) (at_ nx1 v))).left) - d2})) (mateH (at_ ((at_ rs v).xs) (at_ nx1 v))) with left:=((at_ (List.set hs4 (at_ ((at_ rs v).xs) (at_ nx1 v)).toNat ({at_ hs4 (at_ ((at_ rs v).xs) (at_ nx1 v)) with left:=((at_ hs4 (at_ ((at_ rs v).xs) (at_ nx1 v))).left) - d2})) (mateH (at_ ((at_ rs v).xs) (at_ nx1 v)))).left)+d2})):=hHd2.push hm.1 hbd2.1 om
       refine Af (As (S5 10 0 1 2 7 rfl rfl rfl rfl rfl) (Ah (Gm rfl (Gm rfl (Gr (Rad rfl rfl) (Ga rfl (Af (Ah (Gm rfl (Gm rfl (Gr (Bs rfl rfl) (Af (A9 rfl (fun c135=>?_) (fun c135=>?_))))))))))))))
       ·exact Ah (Gm rfl (Ga rfl (Af (As (S1 6 rfl) (A2 (Ar (Al (Al (Ar (Al (A7 rfl rfl (blk b [hw,ow,lw,nw,I64 (n.sink)] 339::vc 336 (hw) (List.set (List.set hs4 (at_ ((at_ rs v).xs) (at_ nx1 v)).toNat ({at_ hs4 (at_ ((at_ rs v).xs) (at_ nx1 v)) with left:=((at_ hs4 (at_ ((at_ rs v).xs) (at_ nx1 v))).left) - d2})) (mateH (at_ ((at_ rs v).xs) (at_ nx1 v))).toNat ({at_ (List.set hs4 (at_ ((at_ rs v).xs) (at_ nx1 v)).toNat ({at_ hs4 (at_ ((at_ rs v).xs) (at_ nx1 v)) with left:=((at_ hs4 (at_ ((at_ rs v).xs) (at_ nx1 v))).left) - d2})) (mateH (at_ ((at_ rs v).xs) (at_ nx1 v))) with left:=((at_ (List.set hs4 (at_ ((at_ rs v).xs) (at_ nx1 v)).toNat ({at_ hs4 (at_ ((at_ rs v).xs) (at_ nx1 v)) with left:=((at_ hs4 (at_ ((at_ rs v).xs) (at_ nx1 v))).left) - d2})) (mateH (at_ ((at_ rs v).xs) (at_ nx1 v)))).left)+d2}))::vc 3 (lw) (L)::vc 3 (nw) (nx5)::I) Ay ⟨_,_,_,_,rfl,⟨⟨by omega,by omega⟩,hput.1,hHp,fun h=>by omega⟩,rfl⟩)))))))))))
       ·exact A0 (Aj (Ep ((sent+d2),(pushF f3 (at_ (at_ rs v).xs (at_ nx1 v)) d2),(List.set (List.set hs4 (at_ ((at_ rs v).xs) (at_ nx1 v)).toNat ({at_ hs4 (at_ ((at_ rs v).xs) (at_ nx1 v)) with left:=((at_ hs4 (at_ ((at_ rs v).xs) (at_ nx1 v))).left) - d2})) (mateH (at_ ((at_ rs v).xs) (at_ nx1 v))).toNat ({at_ (List.set hs4 (at_ ((at_ rs v).xs) (at_ nx1 v)).toNat ({at_ hs4 (at_ ((at_ rs v).xs) (at_ nx1 v)) with left:=((at_ hs4 (at_ ((at_ rs v).xs) (at_ nx1 v))).left) - d2})) (mateH (at_ ((at_ rs v).xs) (at_ nx1 v))) with left:=((at_ (List.set hs4 (at_ ((at_ rs v).xs) (at_ nx1 v)).toNat ({at_ hs4 (at_ ((at_ rs v).xs) (at_ nx1 v)) with left:=((at_ hs4 (at_ ((at_ rs v).xs) (at_ nx1 v))).left) - d2})) (mateH (at_ ((at_ rs v).xs) (at_ nx1 v)))).left)+d2})),(nx5)) (by dsimp only;exact ⟨om,(by first|exact hP|exact hput.1),(by first|exact hH1|exact hHp),(by first|rfl|exact hput.2.1),(by first|(rintro ⟨a,b,c⟩;omega)|(rw [hput.2.1];have hused2:=hused c135;rw [hm.2] at hused2;exact hused2))⟩)))
    ·rintro ⟨sent2,f2,hs2,nx2⟩ hp
     obtain ⟨hs20,hP2,hH2,hnx2,hD2⟩:(0≤sent2∧sent2≤most)∧(PushR n (rowsL rs) L v sent2 f nx f2 nx2)∧(HOk n f2 hs2)∧(at_ nx2 v=at_ nx1 v)∧(¬(0<leftH n f2 (at_ (at_ rs v).xs (at_ nx2 v))∧at_ L (toH n (at_ (at_ rs v).xs (at_ nx2 v)))=at_ L v+1∧Adm n f2 L (toH n (at_ (at_ rs v).xs (at_ nx2 v))))):=hp
     show W Tryz.prog κ 138 _ _ ([(0,.pointer (some ⟨b,0,none⟩)),(1,I64 (v)),(2,I64 (most)),(7,I64 (sent2))]:Env) (blk b [hw,ow,lw,nw,I64 (n.sink)] 339::vc 336 (hw) (hs2)::vc 3 (lw) (L)::vc 3 (nw) (nx2)::I)
     refine Aw (Gm rfl ?_)
     have hnl2:=hP2.nlen
     have hnx20:=hP2.nge v hv0 hv1
     refine Gr (Bk rfl) (Gf fld339_3 rfl (Gl ty22 ?_))
     refine Gm rfl (Gr (A8 (α:=Int) (xs:=nx2) Ab ty3 rfl rfl Br om om) (Gr (B2 (xs:=nx2) ty3 rfl Br om om) (Gr (Rad rfl rfl) (Gr (A8 (α:=Int) (xs:=nx2) Ab ty3 rfl rfl Br om om) (Ge0 (Cy (α:=Int) (xs:=nx2) (e:=3) (new:=(at_ nx2 v)+1) ty3 rfl rfl rfl om om am) ?_)))))
     exact Bj (B6 ((sent2),(f2),(hs2),(List.set nx2 (v).toNat ((at_ nx2 v)+1))) (by dsimp only;exact ⟨om,om,(hP2.adv om (by rw [rowsL_at];exact hD2) hv1),hH2⟩) (hlt:=by (try dsimp only);exact (by rw [Dc nx2 v v _ hv0 hv0 om,if_pos rfl];omega)))
   ·exact Bt (Ak (Ak (A6 (Ai (Ah (Gm rfl (Ga rfl (Af (A2 (A7 rfl rfl (blk b [hw,ow,lw,nw,I64 (n.sink)] 339::vc 336 (hw) (hs1)::vc 3 (lw) (L)::vc 3 (nw) (nx1)::I) Ay ⟨_,_,_,_,rfl,⟨⟨hs0,hs9⟩,hP,hH1,fun h=>by first|omega|exact Dead.not hr hP.dead ⟨hv0,hv1⟩ c16 (by rw [rowsL_at];omega)⟩,rfl⟩))))))))))
  ·exact Dpo 17 rfl (Dpo 18 rfl (Dpo 19 rfl (Dr 20 rfl (Av rfl rfl) (Dz (Ai (As (S5 38 0 1 2 7 rfl rfl rfl rfl rfl) (Cx rfl (Bt (Ak (Ak (A6 (Ai (Ah (Gm rfl (Ga rfl (Af (A2 (A7 rfl rfl (blk b [hw,ow,lw,nw,I64 (n.sink)] 339::vc 336 (hw) (hs1)::vc 3 (lw) (L)::vc 3 (nw) (nx1)::I) Ay ⟨_,_,_,_,rfl,⟨⟨hs0,hs9⟩,hP,hH1,fun h=>by first|omega|exact Dead.not hr hP.dead ⟨hv0,hv1⟩ c16 (by rw [rowsL_at];omega)⟩,rfl⟩))))))))))))))))))
variable {κ:Ctx}{I:List Item}
theorem Push_ok{n:Net}{rs:List Row}{b:Nat}{hw ow lw nw:Value}{L:List Int}(hok:n.Ok)(hr:ROk n (rowsL rs))(ho:Sl κ I ow rs)(hrow:∀i:Int,0≤i→i<rs.length→Sl κ I (.slice (at_ rs i).a (at_ rs i).xs.length (at_ rs i).c) (at_ rs i).xs)(hL:(L.length:Int)=n.nodes)(hlow:∀z:Int,0≤z→z<n.nodes→ -1≤at_ L z∧at_ L z<n.nodes):∀(d:Nat) (lv:Int),n.nodes - lv≤d→PushC κ I n rs b hw ow lw nw L lv:=by
 intro d
 induction d with
 |zero=>
  intro lv hd v most f nx hs hlv h0 h1
  have:=(hlow v h0 h1).2
  omega
 |succ d ih=>
  intro lv hd v most f nx hs hlv h0 h1 h2 h3 h4 h5 h6 h7 h8
  exact Push_step hok hr ho hrow hL hlow (ih (lv+1) om) hlv h0 h1 h2 h3 h4 h5 h6 h7 h8
theorem Greatest_ok{n:Net}{f:List Int}{hs:List Half}{rs:List Row}{b:Nat}{hw ow lw nw:Value}{L nx:List Int}(hok:n.Ok)(hh:HOk n f hs)(hr:ROk n (rowsL rs))(ho:Sl κ I ow rs)(hrow:∀i:Int,0≤i→i<rs.length→Sl κ I (.slice (at_ rs i).a (at_ rs i).xs.length (at_ rs i).c) (at_ rs i).xs)(hL:(L.length:Int)=n.nodes)(hN:(nx.length:Int)=n.nodes)(hf:IsFlow n f)(hv0:netF n f n.source=0) :
    CallS Tryz.prog κ 336 [.pointer (some ⟨b,0,none⟩),I64 (n.source)] (blk b [hw,ow,lw,nw,I64 (n.sink)] 339::vc 336 (hw) (hs)::vc 3 (lw) (L)::vc 3 (nw) (nx)::I) (fun r J=>∃(val:Int) (f':List Int) (hs':List Half) (L' nx':List Int),r=I64 val∧(Full n f' val∧HOk n f' hs')∧J=blk b [hw,ow,lw,nw,I64 (n.sink)] 339::vc 336 (hw) (hs')::vc 3 (lw) (L')::vc 3 (nw) (nx')::I):=by
 have hlim:=hok.lim
 have hsrc:=hok.src
 have hsnk:=hok.snk
 refine Ce2 Tryz.func336 rfl rfl ?_
 refine Ah (Ga rfl (Af (Ah (Ga rfl (Af (Ao (Ax (Bx (σ:=Int×(List Int)×(List Half)×(List Int)×(List Int)) (fun s=>([(0,.pointer (some ⟨b,0,none⟩)),(1,I64 (n.source)),(5,I64 (s.1))]:Env)) (fun s=>blk b [hw,ow,lw,nw,I64 (n.sink)] 339::vc 336 (hw) (s.2.2.1)::vc 3 (lw) (s.2.2.2.1)::vc 3 (nw) (s.2.2.2.2)::I) (fun s=>(IsFlow n s.2.1)∧(s.1=netF n s.2.1 n.source)∧(0≤s.1)∧(HOk n s.2.1 s.2.2.1)∧((s.2.2.2.1.length:Int)=n.nodes)∧((s.2.2.2.2.length:Int)=n.nodes)) (fun s=>(18014398509481984 - s.1).toNat) (0,f,hs,L,nx) (show (IsFlow n (f:List Int))∧((0:Int)=netF n (f:List Int) n.source)∧(0≤(0:Int))∧(HOk n (f:List Int) (hs:List Half))∧(((L:List Int).length:Int)=n.nodes)∧(((nx:List Int).length:Int)=n.nodes) from ⟨hf,hv0.symm,om,hh,hL,hN⟩) (Ac rfl (Ac rfl (Ac Cb Bq))) (show Fit κ _ (blk b [hw,ow,lw,nw,I64 (n.sink)] 339::vc 336 (hw) ((hs))::vc 3 (lw) ((L))::vc 3 (nw) ((nx))::I) from Ay) ?_))))))))
 rintro ⟨val,f,hs,L,nx⟩ hp
 dsimp only at hp ⊢
 obtain ⟨hf,hval,hv0,hh,hL,hN⟩:=hp
 refine Ao (Ah (Gm rfl (Gm rfl (G.e (Am call341 rfl rfl (Layers_ok (n:=n) (f:=f) hok hh hr ho hrow om om)) ?_))))
 rintro _ _ ⟨_,_,⟨L1,nx2,rfl,⟨hVL1,hnL1,hzL1⟩,rfl⟩,rfl,rfl⟩
 show G Tryz.prog κ _ _ _ _ ([(8,.bool (decide (0≤at_ L1 n.sink))),(7,I64 (n.source)),(6,.pointer (some ⟨b,0,none⟩)),(0,.pointer (some ⟨b,0,none⟩)),(1,I64 (n.source)),(5,I64 (val))]:Env) (blk b [hw,ow,lw,nw,I64 (n.sink)] 339::vc 336 (hw) (hs)::vc 3 (lw) (L1)::vc 3 (nw) (nx2)::I)
 have hlL1:=hVL1.len
 refine Af (A9 rfl (fun c8=>?_) (fun c8=>?_))
 ·refine A0 (Ai (Ax (Aw (Gm rfl (Gm rfl (Gm rfl (G.e (Am call342 rfl rfl (Cn (J:=blk b [hw,ow,lw,nw,I64 (n.sink)] 339::vc 336 (hw) (hs)::vc 3 (lw) (L1)::vc 3 (nw) (nx2)::I) Ay (Push_ok hok hr ho hrow hlL1 hVL1.low n.nodes.toNat 0 om n.source 4611686018427387904 f nx2 hs hVL1.src hsrc.1 hsrc.2 (by rw [hVL1.src];exact Int.le_refl _) om om hh (fun u h0 h1 j hj=>by rw [hzL1 u h0 h1] at hj;omega) (fun z h0 h1=>by rw [hzL1 z h0 h1];exact Int.le_refl _) hnL1))) ?_)))))))
  rintro _ _ ⟨_,_,⟨d3,f4,hs5,nx6,rfl,⟨hbd3,hPd3,hHd3,hAd3⟩,rfl⟩,rfl,rfl⟩
  show G Tryz.prog κ _ _ _ _ ([(12,I64 (d3)),(11,I64 (n.source)),(10,.pointer (some ⟨b,0,none⟩)),(9,I64 (val)),(8,.bool (decide (0≤at_ L1 n.sink))),(7,I64 (n.source)),(6,.pointer (some ⟨b,0,none⟩)),(0,.pointer (some ⟨b,0,none⟩)),(1,I64 (n.source)),(5,I64 (val))]:Env) (blk b [hw,ow,lw,nw,I64 (n.sink)] 339::vc 336 (hw) (hs5)::vc 3 (lw) (L1)::vc 3 (nw) (nx6)::I)
  have hfl:=hPd3.flow hok hf
  have hvb:=value_le hok hfl.1 (fun z=>z==n.source) (by simp) (by simpa using fun e=>hok.ne e.symm)
  have hcb:=(cut_nonneg_le hok (fun z=>z==n.source)).2
  have hpos:1≤d3:=Int.not_lt.1 fun h=>hAd3 om (by rw [hPd3.zero om];exact hVL1.go hok c8)
  have hnn:=hPd3.nlen
  exact Gr (Rad rfl rfl) (Ga rfl (Bj (Aj (B6 ((val+d3),(f4),(hs5),(L1),(nx6)) (by dsimp only;exact ⟨hfl.1,om,om,hHd3,om,om⟩)))))
 ·exact Bt (Ak (Ak (A6 (Ai (Ah (Gm rfl (Ga rfl (Af (A2 (A7 rfl rfl (blk b [hw,ow,lw,nw,I64 (n.sink)] 339::vc 336 (hw) (hs)::vc 3 (lw) (L1)::vc 3 (nw) (nx2)::I) Ay ⟨val,f,hs,L1,nx2,rfl,⟨⟨hf,hval,hVL1.end hok c8⟩,hh⟩,rfl⟩))))))))))
section
variable {n:Net}{f todo:List Int}{rs:List Row}{x v:Int}{q:Nat}{ag:Bool}{seen:List Bool}
theorem goH_t{i:Int}(h:ag=true):leftH n f (mateH i)=goH n f ag i:=by unfold goH;rw [if_pos h]
theorem goH_f{i:Int}(h:ag=false):leftH n f i=goH n f ag i:=by unfold goH;rw [if_neg (by rw [h];decide)]
theorem RI.inc1(h:RI n f ag v (rowsL rs) seen todo x q)(hd:0<goH n f ag (at_ (at_ rs x).xs (q:Int))→at_ seen (toH n (at_ (at_ rs x).xs (q:Int)))=true):RI n f ag v (rowsL rs) seen todo x (q+1):=h.inc (by rw [rowsL_at];exact hd)
theorem RI.put1(hok:n.Ok)(h:RI n f ag v (rowsL rs) seen todo x q)(hx:0≤x)(hv:0≤v)(hi:InH n (at_ (at_ rs x).xs (q:Int))∧fromH n (at_ (at_ rs x).xs (q:Int))=x)(hl:0<goH n f ag (at_ (at_ rs x).xs (q:Int)))(hn:(!at_ seen (toH n (at_ (at_ rs x).xs (q:Int))))=true) :
  RI n f ag v (rowsL rs) (seen.set (toH n (at_ (at_ rs x).xs (q:Int))).toNat true) (todo++[toH n (at_ (at_ rs x).xs (q:Int))]) x (q+1)∧unB (seen.set (toH n (at_ (at_ rs x).xs (q:Int))).toNat true)+1=unB seen:=by
 have h1:=h.put hok hx hv hi.1 hi.2 hl (by simpa using hn)
 refine ⟨h1.1.inc1 fun _=>?_,h1.2⟩
 have hfo:=from_ok hok hi.1
 rw [Dc _ _ _ _ hfo.2.1.1 hfo.2.1.1 (by have:=h.len;omega),if_pos rfl]
theorem RI.over1(h:RI n f ag v (rowsL rs) seen todo x q)(hq:(at_ rs x).xs.length≤q):RI n f ag v (rowsL rs) seen todo (-1) 0:=h.over (by rw [rowsL_at];exact hq)
end
theorem Reached_ok{κ:Ctx}{I:List Item}{n:Net}{f:List Int}{hs:List Half}{rs:List Row}{b:Nat}{hw ow lw nw:Value}{v:Int}{ag:Bool}(hok:n.Ok)(hh:HOk n f hs)(hhs:Sl κ I hw hs)(hr:ROk n (rowsL rs))(ho:Sl κ I ow rs)(hrow:∀i:Int,0≤i→i<rs.length→Sl κ I (.slice (at_ rs i).a (at_ rs i).xs.length (at_ rs i).c) (at_ rs i).xs)(hv:0≤v∧v<n.nodes) :
    CallS Tryz.prog κ 318 [.pointer (some ⟨b,0,none⟩),I64 (v),.bool (ag)] (blk b [hw,ow,lw,nw,I64 (n.sink)] 339::I) (fun r J=>∃(a:Option Addr) (c:Nat) (seen:List Bool),r = .slice a seen.length c∧Seen n f ag v seen∧J=vc 4 (.slice a seen.length c) seen::blk b [hw,ow,lw,nw,I64 (n.sink)] 339::I):=by
 have hlim:=hok.lim
 have hsrc:=hok.src
 have hsnk:=hok.snk
 have hhl:=hh.len
 have hrl:=hr.rl
 refine Ce3 Tryz.func318 rfl rfl ?_
 refine Ah (Ga rfl (Af (Ah (Gm rfl (Gr (Bk rfl) (Gf fld339_1 rfl (Gl ty79 ?_)))))))
 refine Gr (Bz (α:=Row) (xs:=rs) Bp rfl (Bf ho)) (Ge2 (Cp (α:=Bool) (n:=rs.length) C6 ty4 rfl rfl rfl om om dc rfl) fun ad1 cp2=>?_)
 have hrp:(List.replicate rs.length (default:Bool)).length=rs.length:=List.length_replicate
 refine Ga rfl (Af (Ah (Gm rfl (Gm rfl (Gr (A8 (α:=Bool) (xs:=List.replicate rs.length (default:Bool)) C6 ty4 rfl rfl Br om om) (Ge0 (Cy (α:=Bool) (xs:=List.replicate rs.length (default:Bool)) (e:=4) (new:=true) ty4 rfl rfl rfl om om am) ?_))))))
 have h0:∀z:Int,0≤z→z<n.nodes→at_ (List.replicate rs.length (default:Bool)) z=false:=fun z a b=>at_rep _ _ _ a om
 have hst:=RI.start (f:=f) (ag:=ag) (rs:=rowsL rs) hv (s0:=List.replicate rs.length (default:Bool)) (by rw [List.length_replicate];exact hrl) h0
 have hst2:unB (List.set (List.replicate rs.length (default:Bool)) v.toNat true)+[v].length≤n.nodes.toNat+1:=by have h9:=List.count_le_length (a:=false) (l:=List.set (List.replicate rs.length (default:Bool)) v.toNat true);rw [List.length_set,List.length_replicate] at h9;unfold unB;simp only [List.length_cons,List.length_nil];omega
 refine Af (As (S4 7 0 1 2 rfl rfl rfl rfl) (Ao (Ah (Gm rfl (Ge1 (B9 (α:=Int) (cs:=[_]) (xs:=[v]) Ab ty3 rfl rfl dc dc rfl rfl rfl rfl) fun ad3=>?_)))))
 refine Ga rfl (Af (Ax (Bx (σ:=(Option Addr)×Nat×(List Int)×(List Bool)) (fun s=>([(0,.pointer (some ⟨b,0,none⟩)),(2,.bool (ag)),(7,.slice ad1 (List.replicate rs.length (default:Bool)).length cp2),(8,.slice s.1 s.2.2.1.length s.2.1)]:Env)) (fun s=>vc 3 (.slice s.1 s.2.2.1.length s.2.1) (s.2.2.1)::vc 4 (.slice ad1 (List.replicate rs.length (default:Bool)).length cp2) (s.2.2.2)::blk b [hw,ow,lw,nw,I64 (n.sink)] 339::I) (fun s=>(RI n f ag v (rowsL rs) s.2.2.2 s.2.2.1 (-1) 0)∧(unB s.2.2.2+s.2.2.1.length≤n.nodes.toNat+1)) (fun s=>unB s.2.2.2+s.2.2.1.length) (ad3,1,[v],List.set (List.replicate rs.length (default:Bool)) (v).toNat (true)) (show (RI n f ag v (rowsL rs) (List.set (List.replicate rs.length (default:Bool)) (v).toNat (true):List Bool) ([v]:List Int) (-1) 0)∧(unB (List.set (List.replicate rs.length (default:Bool)) (v).toNat (true):List Bool)+([v]:List Int).length≤n.nodes.toNat+1) from ⟨hst,hst2⟩) (Ac rfl (Ac rfl (Ac rfl (Ac (Cz rfl (by first|rfl|simp)) Bq)))) (show Fit κ _ (vc 3 (.slice (ad3) ([v]).length (1)) (([v]))::vc 4 (.slice ad1 (List.replicate rs.length (default:Bool)).length cp2) ((List.set (List.replicate rs.length (default:Bool)) (v).toNat (true)))::blk b [hw,ow,lw,nw,I64 (n.sink)] 339::I) from Ay) ?_)))
 rintro ⟨a,c,todo,seen⟩ hp
 dsimp only at hp ⊢
 obtain ⟨hI,hub⟩:=hp
 have hl2:=hI.len
 refine Ao (Ah (Gm rfl (Gr (Bw Ab rfl) (Gr (B5 rfl rfl) (Af (A9 rfl (fun c26=>?_) (fun c26=>?_)))))))
 ·refine A0 (Ai (Ao (Ax (Ao (Bo mixed (Bu (vc 3 (.slice a todo.length c) (todo)::vc 4 (.slice ad1 (List.replicate rs.length (default:Bool)).length cp2) (seen)::blk b [hw,ow,lw,nw,I64 (n.sink)] 339::I) 11 (Dr 0 rfl (Ad rfl) ?_)))))))
  have hx0:=hI.wait _ (Ck (xs:=todo) (i:=0) om om)
  refine Dr 1 rfl (Bk rfl) (Dr 2 rfl (Aa fld339_1 rfl) (Dr 3 rfl (Au ty79) ?_))
  refine Dr 4 rfl (Ad rfl) (Dr 5 rfl (A8 (α:=Int) (xs:=todo) Ab ty3 rfl rfl Br om om) (Dr 6 rfl (B2 (xs:=todo) ty3 rfl Br om om) (Dr 7 rfl (A8 (α:=Row) (xs:=rs) Bp ty22 rfl rfl (Bf ho) om om) (Dr 8 rfl (Cs (α:=Row) (xs:=rs) (u:= .slice (at_ rs (at_ todo 0)).a (at_ rs (at_ todo 0)).xs.length (at_ rs (at_ todo 0)).c) ty22 rfl (Bf ho) om om rfl) (Dr 9 rfl (Bw Ab rfl) (Dr 10 rfl (Ad rfl) (Dz (Ai (As (S7 39 38 37 0 2 7 8 rfl rfl rfl rfl rfl rfl rfl) (Ax (Bx (σ:=Nat×(Option Addr)×Nat×(List Int)×(List Bool)) (fun s=>([(0,.pointer (some ⟨b,0,none⟩)),(2,.bool (ag)),(7,.slice ad1 (List.replicate rs.length (default:Bool)).length cp2),(8,.slice s.2.1 s.2.2.2.1.length s.2.2.1),(37,.slice (at_ rs (at_ todo 0)).a (at_ rs (at_ todo 0)).xs.length (at_ rs (at_ todo 0)).c),(38,I64 ((((at_ rs (at_ todo 0)).xs.length:Nat):Int))),(39,I64 (((s.1:Nat):Int)))]:Env)) (fun s=>vc 3 (.slice s.2.1 s.2.2.2.1.length s.2.2.1) (s.2.2.2.1)::vc 4 (.slice ad1 (List.replicate rs.length (default:Bool)).length cp2) (s.2.2.2.2)::blk b [hw,ow,lw,nw,I64 (n.sink)] 339::I) (fun s=>(s.1≤(at_ rs (at_ todo 0)).xs.length)∧(0<s.2.2.2.1.length)∧(at_ s.2.2.2.1 0=(at_ todo 0))∧(RI n f ag v (rowsL rs) s.2.2.2.2 (s.2.2.2.1.drop 1) (at_ todo 0) s.1)∧(unB s.2.2.2.2+s.2.2.2.1.length=unB seen+todo.length)) (fun s=>(at_ rs (at_ todo 0)).xs.length - s.1) (0,a,c,todo,seen) (show ((0:Nat)≤(at_ rs (at_ todo 0)).xs.length)∧(0<(todo:List Int).length)∧(at_ (todo:List Int) 0=(at_ todo 0))∧(RI n f ag v (rowsL rs) (seen:List Bool) ((todo:List Int).drop 1) (at_ todo 0) (0:Nat))∧(unB (seen:List Bool)+(todo:List Int).length=unB seen+todo.length) from ⟨om,om,rfl,(hI.next om),rfl⟩) (Ac rfl (Ac rfl (Ac rfl (Ac (Cz rfl (by first|rfl|simp)) (Ac rfl (Ac rfl (Ac Cb Bq))))))) (show Fit κ _ (vc 3 (.slice (a) (todo).length (c)) ((todo))::vc 4 (.slice ad1 (List.replicate rs.length (default:Bool)).length cp2) ((seen))::blk b [hw,ow,lw,nw,I64 (n.sink)] 339::I) from Ay) ?_)))))))))))
  rintro ⟨q,a1,c1,w,seen1⟩ hp
  dsimp only at hp ⊢
  obtain ⟨hq,hwl,hw0,hI1,hmu⟩:=hp
  refine W.pull (fun w hs=>(Ch (hrow (at_ todo 0) om om) A4).le w hs) fun hrm=>?_
  have hl3:=hI1.len
  refine Ah (Gr (Bc rfl rfl) (Af (Ao (A9 rfl (fun c40=>?_) (fun c40=>?_)))))
  ·refine A0 (Ai (Ao (Ax (Ah (Gr (A8 (α:=Int) (xs:=(at_ rs (at_ todo 0)).xs) Ab ty3 rfl rfl (Ch (hrow (at_ todo 0) om om) A4) om om) (Gr (B2 (xs:=(at_ rs (at_ todo 0)).xs) ty3 rfl (Ch (hrow (at_ todo 0) om om) A4) om om) ?_))))))
   have hm:=hr.row hx0.1.1 hx0.1.2 (j:=(q:Int)) om om
   have hg:=hh.get _ hm.1
   have hfo:=from_ok hok hm.1
   have hi2:0≤(at_ (at_ rs (at_ todo 0)).xs (q:Int))∧(at_ (at_ rs (at_ todo 0)).xs (q:Int))<2*n.arcs.length:=hm.1
   have hmi:0≤mateH (at_ (at_ rs (at_ todo 0)).xs (q:Int))∧mateH (at_ (at_ rs (at_ todo 0)).xs (q:Int))<2*n.arcs.length:=hm.1.mate
   have hg2:=hh.get _ hm.1.mate
   refine Ga rfl (Af (Ao (Bo mixed (Bu (vc 3 (.slice a1 w.length c1) (w)::vc 4 (.slice ad1 (List.replicate rs.length (default:Bool)).length cp2) (seen1)::blk b [hw,ow,lw,nw,I64 (n.sink)] 339::I) 19 (Dr 0 rfl (Ad rfl) (Dr 1 rfl (Bk rfl) (Dr 2 rfl (Aa fld339_0 rfl) (Dr 3 rfl (Au ty337) ?_))))))))
   refine Dr 4 rfl (Ad rfl) (Dr 5 rfl (A8 (α:=Half) (xs:=hs) Ce ty336 rfl rfl (Bf hhs) om om) (Dr 6 rfl (Dq (α:=Half) (xs:=hs) fld336_0 rfl (Bf hhs) om) (Dr 7 rfl (Dq (α:=Half) (xs:=hs) fld305_1 rfl (Bf hhs) om) (Dr 8 rfl (D6 (α:=Half) (xs:=hs) (u:=I64 ((at_ hs (at_ ((at_ rs (at_ todo 0)).xs) (q:Int))).dst)) ty3 rfl (Bf hhs) om om rfl) (Dr 9 rfl (Ad rfl) (Dr 10 rfl (Bk rfl) (Dr 11 rfl (Aa fld339_0 rfl) (Dr 12 rfl (Au ty337) ?_))))))))
   refine Dr 13 rfl (Ad rfl) (Dr 14 rfl (A8 (α:=Half) (xs:=hs) Ce ty336 rfl rfl (Bf hhs) om om) (Dr 15 rfl (Dq (α:=Half) (xs:=hs) fld336_1 rfl (Bf hhs) om) (Dr 16 rfl (D6 (α:=Half) (xs:=hs) (u:=I64 ((at_ hs (at_ ((at_ rs (at_ todo 0)).xs) (q:Int))).left)) ty3 rfl (Bf hhs) om om rfl) (Dr 17 rfl (Bd rfl) (Dr 18 rfl (Bd rfl) (Dz (Ai (As (S10 12 11 10 0 2 7 8 37 38 39 rfl rfl rfl rfl rfl rfl rfl rfl rfl rfl) (W.cut (σ:=Int) (fun s=>([(0,.pointer (some ⟨b,0,none⟩)),(2,.bool (ag)),(7,.slice ad1 (List.replicate rs.length (default:Bool)).length cp2),(8,.slice a1 w.length c1),(11,I64 ((at_ hs (at_ ((at_ rs (at_ todo 0)).xs) (q:Int))).dst)),(12,I64 (s)),(37,.slice (at_ rs (at_ todo 0)).a (at_ rs (at_ todo 0)).xs.length (at_ rs (at_ todo 0)).c),(38,I64 ((((at_ rs (at_ todo 0)).xs.length:Nat):Int))),(39,I64 ((q:Int)))]:Env)) (fun s=>vc 3 (.slice a1 w.length c1) (w)::vc 4 (.slice ad1 (List.replicate rs.length (default:Bool)).length cp2) (seen1)::blk b [hw,ow,lw,nw,I64 (n.sink)] 339::I) (fun s=>(s=goH n f ag (at_ (at_ rs (at_ todo 0)).xs (q:Int)))) ?_ ?_)))))))))
   ·refine Ah (Gm rfl (Af (W.cond rfl (fun c60=>?_) (fun c60=>?_))))
    ·refine Aw (Gm rfl (Gr (Bk rfl) (Gf fld339_0 rfl (Gl ty337 ?_))))
     exact Gm rfl (Gr ((xor_mate (i:=at_ ((at_ rs (at_ todo 0)).xs) (q:Int)) om om)▸Runs.xorw rfl rfl) (Gr (A8 (α:=Half) (xs:=hs) Ce ty336 rfl rfl (Bf hhs) om om) (Gr (Dq (α:=Half) (xs:=hs) fld336_1 rfl (Bf hhs) om) (Gr (D6 (α:=Half) (xs:=hs) (u:=I64 ((at_ hs (mateH (at_ ((at_ rs (at_ todo 0)).xs) (q:Int)))).left)) ty3 rfl (Bf hhs) om om rfl) (Ga rfl (Bj (Ep (((at_ hs (mateH (at_ ((at_ rs (at_ todo 0)).xs) (q:Int)))).left)) (by first|exact hg.2.2.trans (goH_f c60)|exact hg2.2.2.trans (goH_t c60)))))))))
    ·exact A0 (Ep (((at_ hs (at_ ((at_ rs (at_ todo 0)).xs) (q:Int))).left)) (by first|exact hg.2.2.trans (goH_f c60)|exact hg2.2.2.trans (goH_t c60)))
   ·rintro lft hp
    have hlft:(lft=goH n f ag (at_ (at_ rs (at_ todo 0)).xs (q:Int))):=hp
    show W Tryz.prog κ 88 _ _ ([(0,.pointer (some ⟨b,0,none⟩)),(2,.bool (ag)),(7,.slice ad1 (List.replicate rs.length (default:Bool)).length cp2),(8,.slice a1 w.length c1),(11,I64 ((at_ hs (at_ ((at_ rs (at_ todo 0)).xs) (q:Int))).dst)),(12,I64 (lft)),(37,.slice (at_ rs (at_ todo 0)).a (at_ rs (at_ todo 0)).xs.length (at_ rs (at_ todo 0)).c),(38,I64 ((((at_ rs (at_ todo 0)).xs.length:Nat):Int))),(39,I64 ((q:Int)))]:Env) (vc 3 (.slice a1 w.length c1) (w)::vc 4 (.slice ad1 (List.replicate rs.length (default:Bool)).length cp2) (seen1)::blk b [hw,ow,lw,nw,I64 (n.sink)] 339::I)
    refine Ah (Gm rfl (Gr (B5 rfl rfl) (Gm rfl (Bi (d:=72) rfl (fun g72=>?_) (fun g72=>?_)))))
    ·refine Gro (Ad rfl) (Gro (Ad rfl) (Gro (A8 (α:=Bool) (xs:=seen1) C6 ty4 rfl rfl Br om om) (Gro (Runs.getB (xs:=seen1) ty4 rfl Br om om) (Gro (Cd rfl) (Gr (Ap rfl rfl) (Af (As (S9 78 0 2 7 8 11 37 38 39 rfl rfl rfl rfl rfl rfl rfl rfl rfl) (W.cond rfl (fun c78=>?_) (fun c78=>?_)))))))))
     ·refine Ah (Gm rfl (Gm rfl (Gr (A8 (α:=Bool) (xs:=seen1) C6 ty4 rfl rfl Br om om) (Ge0 (Cy (α:=Bool) (xs:=seen1) (e:=4) (new:=true) ty4 rfl rfl rfl om om am) ?_))))
      refine Af (Aw (Gm rfl (Gm rfl (Ge1 (B9 (α:=Int) (cs:=[_]) (xs:=[(at_ hs (at_ ((at_ rs (at_ todo 0)).xs) (q:Int))).dst]) Ab ty3 rfl rfl dc dc rfl rfl rfl rfl) fun ad4=>?_))))
      refine Ge2 (Ca (α:=Int) (e:=3) (xs:=w) (ys:=([(at_ hs (at_ ((at_ rs (at_ todo 0)).xs) (q:Int))).dst]:List Int)) Ab ty3 rfl rfl rfl mm Br lcn dc rfl (fun _ _=>am)) fun ad5 cp6=>?_
      exact Ga rfl (Bj (Aj (Ai (As (S7 8 0 2 7 37 38 39 rfl rfl rfl rfl rfl rfl rfl) (Aw (Gr (Rad rfl rfl) (Gm rfl (Bj (B6 ((q+1),(ad5),(cp6),(w++([(at_ hs (at_ ((at_ rs (at_ todo 0)).xs) (q:Int))).dst]:List Int)),(List.set seen1 ((at_ hs (at_ ((at_ rs (at_ todo 0)).xs) (q:Int))).dst).toNat (true))) (by dsimp only;exact ⟨om,(by first|exact hwl|(rw [List.length_append];omega)),(by first|exact hw0|(rw [at_zero_append hwl];exact hw0)),(by first|exact hI1.inc1 (fun h=>by omega)|exact hI1.inc1 (fun _=>by rw [←hg.2.1];simpa using c78)|(rw [hg.2.1,drop_one_append hwl];exact (hI1.put1 hok hx0.1.1 hv.1 hm om (by rw [←hg.2.1];exact c78)).1)),(by first|exact hmu|(rw [hg.2.1,List.length_append];have:=(hI1.put1 hok hx0.1.1 hv.1 hm om (by rw [←hg.2.1];exact c78)).2;simp only [List.length_cons,List.length_nil];omega))⟩))))))))))
     ·exact A0 (Aj (Ai (Aw (Gr (Rad rfl rfl) (Gm rfl (Bj (B6 ((q+1),(a1),(c1),(w),(seen1)) (by dsimp only;exact ⟨om,(by first|exact hwl|(rw [List.length_append];omega)),(by first|exact hw0|(rw [at_zero_append hwl];exact hw0)),(by first|exact hI1.inc1 (fun h=>by omega)|exact hI1.inc1 (fun _=>by rw [←hg.2.1];simpa using c78)|(rw [hg.2.1,drop_one_append hwl];exact (hI1.put1 hok hx0.1.1 hv.1 hm om (by rw [←hg.2.1];exact c78)).1)),(by first|exact hmu|(rw [hg.2.1,List.length_append];have:=(hI1.put1 hok hx0.1.1 hv.1 hm om (by rw [←hg.2.1];exact c78)).2;simp only [List.length_cons,List.length_nil];omega))⟩))))))))
    ·exact Gpo (Gpo (Gpo (Gpo (Gpo (Gr (Av rfl rfl) (Af (As (S9 78 0 2 7 8 11 37 38 39 rfl rfl rfl rfl rfl rfl rfl rfl rfl) (Cx rfl (A0 (Aj (Ai (Aw (Gr (Rad rfl rfl) (Gm rfl (Bj (B6 ((q+1),(a1),(c1),(w),(seen1)) (by dsimp only;exact ⟨om,(by first|exact hwl|(rw [List.length_append];omega)),(by first|exact hw0|(rw [at_zero_append hwl];exact hw0)),(by first|exact hI1.inc1 (fun h=>by omega)|exact hI1.inc1 (fun _=>by rw [←hg.2.1];simpa using c78)|(rw [hg.2.1,drop_one_append hwl];exact (hI1.put1 hok hx0.1.1 hv.1 hm om (by rw [←hg.2.1];exact c78)).1)),(by first|exact hmu|(rw [hg.2.1,List.length_append];have:=(hI1.put1 hok hx0.1.1 hv.1 hm om (by rw [←hg.2.1];exact c78)).2;simp only [List.length_cons,List.length_nil];omega))⟩)))))))))))))))))
  ·refine Bt (Ak (Ak (A6 (Aj (Ai (Aw (Gm rfl (Gr (El (α:=Int) (xs:=w) (l:=1) Ab ty3 rfl rfl om Br om) (G.fit (J:=vc 3 (.slice (adrop a1 c1 1 (Enc.sz Int)) (List.drop 1 w).length (c1 - 1)) (List.drop 1 w)::vc 4 (.slice ad1 (List.replicate rs.length (default:Bool)).length cp2) (seen1)::blk b [hw,ow,lw,nw,I64 (n.sink)] 339::I) (Fit.upd am (reslice (l:=1) om)) ?_)))))))))
   exact Ga rfl (Bj (B6 (((adrop a1 c1 1 (Enc.sz Int))),((c1 - 1)),(List.drop 1 w),(seen1)) (by dsimp only;exact ⟨(hI1.over1 om),(by rw [List.length_drop];omega)⟩) (hlt:=by (try dsimp only);exact (by rw [List.length_drop];omega))))
 ·refine Bt (Ak (Ak (A6 (Ai (Ah (Gm rfl (Ga rfl (Af (A2 ?_)))))))))
  have hdn:=hI.done hok hr om
  have hsl:(List.replicate rs.length (default:Bool)).length=seen.length:=by rw [List.length_replicate];omega
  exact A7 rfl rfl (vc 4 (.slice ad1 (List.replicate rs.length (default:Bool)).length cp2) (seen)::blk b [hw,ow,lw,nw,I64 (n.sink)] 339::I) Ay ⟨ad1,cp2,seen,by rw [hsl],hdn,by rw [hsl]⟩
end Go.Sl
