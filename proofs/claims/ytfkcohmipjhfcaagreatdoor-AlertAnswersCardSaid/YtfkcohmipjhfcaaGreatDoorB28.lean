/- A part of the proofs of statements of this seat: contracts of functions, and the plain laws that they lean on. No conditions. -/
import Derived.Test.YtfkcohmipjhfcaaGreatDoorB27
set_option linter.unusedVariables false
set_option linter.unusedSimpArgs false
set_option linter.unusedSectionVars false
open Go.Proofs.Tryz (prog)
open List (replicate)
namespace Go.Sl
open Go.Proofs
set_option maxRecDepth 4000
theorem bz9.lvb{n:Int}{x:AlV}(h:bz9 n x):0<=x.lv/\x.lv<=64:=by
 have M:=h.kind
 obtain e|e|e|e|e:x.kd=1\/x.kd=2\/x.kd=3\/x.kd=4\/x.kd=5:=by omega
 ·exact (h.k1 e).2.1
 ·have:=(h.k2 e).2.1;omega
 ·have:=(h.k3 e).2.1;omega
 ·exact (h.k4 e).2.1
 exact (h.k5 e).2.1
structure gy0 (κ:Ctx) (T:List Item) (r:ah9 AlV):Prop where
 sl:Sl κ T (.slice r.a r.xs.length r.c) r.xs
 fx4:∀x∈r.xs,Sl κ T (.slice x.a x.xs.length x.c) x.xs
 len:r.xs.length<=17
set_option maxHeartbeats 8000000 in
theorem ax9{κ:Ctx}{I:List Item}{la:Option Addr}{ln lc:Nat}{ls:List Int}(hl:Sl κ I (.slice la ln lc) ls){ra:Option Addr}{rc:Nat}{als0:List AlV}(hr:Sl κ I (.slice ra als0.length rc) als0)(hrs:∀x∈als0,Sl κ I (.slice x.a x.xs.length x.c) x.xs){ea:Option Addr}{ec:Nat}{es0:List Ev}(he:Sl κ I (.slice ea es0.length ec) es0){qa:Option Addr}{qc:Nat}{rs0:List Rg}(hq:Sl κ I (.slice qa rs0.length qc) rs0)(kd wd mo nodes n:Int)(hT:P6 κ I 0 F3):er prog κ 6 [.slice la ln lc,.slice ra als0.length rc,.slice ea es0.length ec,.agg #[e7 kd,e7 wd,e7 mo],.slice qa rs0.length qc,e7 nodes,e7 n] I (λr J=>r = .bool true/\I=J):=by
 refine Ce7 Tryz.func6 C C ?_
 refine Aj (Ge1 (Ay (cs:=[_,_,_]) C C C) λb1=>Ga C (Aq (Ax (D2 (σ:=Bool) (λs=>([(0,.slice la ln lc),(1,.slice ra als0.length rc),(2,.slice ea es0.length ec),(4,.slice qa rs0.length qc),(5,e7 nodes),(6,e7 n),(10,.pointer (some ⟨b1,0,none⟩)),(79,.bool s)]:Env)) (λs=>e8 b1 [e7 kd,e7 wd,e7 mo] 31::I) (λs=>(s=false->(als0.length<=5/\es0.length<=6/\nodes<=7))) ?_ ?_))))
 ·refine A1 (Gm C (Gc0 (Ac c_ C C gp0) ?_))
  refine Gr (Fi C) (Gm C (Au (d:=61) C (λg61=>?_) (λg61=>?_)))
  ·exact eb (eb (eb (Gr (Br C C) (Gm C (eb (eb (eb (Gr (Br C C) (Gm C (eb (eb (eb (Gr (Br C C) (Gm C (eb (eb (Gr (Br C C) (Bl (Bu ((true)) (by first|(intro h;cases h;done)|(intro h;have h2:=Gt h;omega)))))))))))))))))))))
  refine e9 (Ad C) (e9 (Bj Be C) (e9 (Cl C C) (Gr (Bg C C) (Gm C (Au (d:=66) C (λg66=>?_) (λg66=>?_))))))
  ·exact eb (eb (eb (Gr (Br C C) (Gm C (eb (eb (eb (Gr (Br C C) (Gm C (eb (eb (Gr (Br C C) (Bl (Bu ((true)) (by first|(intro h;cases h;done)|(intro h;have h2:=Gt h;omega))))))))))))))))
  refine e9 (Ad C) (e9 (Bj As C) (e9 (Cl C C) (Gr (Bg C C) (Gm C (Au (d:=71) C (λg71=>?_) (λg71=>?_))))))
  ·exact eb (eb (eb (Gr (Br C C) (Gm C (eb (eb (Gr (Br C C) (Bl (Bu ((true)) (by first|(intro h;cases h;done)|(intro h;have h2:=Gt h;omega)))))))))))
  refine e9 (Ad C) (e9 (Bj Cq C) (e9 (Cl C C) (Gr (Bg C C) (Gm C (Au (d:=76) C (λg76=>?_) (λg76=>?_))))))
  ·exact eb (eb (Gr (Br C C) (Bl (Bu ((true)) (by first|(intro h;cases h;done)|(intro h;have h2:=Gt h;omega))))))
  exact e9 (Ad C) (e9 (Cl C C) (Gr (Bg C C) (Bl (Bu ((decide (7<nodes))) (by first|(intro h;cases h;done)|(intro h;have h2:=Gt h;omega))))))
 rintro b79 hp
 have hb79:(b79=false->(als0.length<=5/\es0.length<=6/\nodes<=7)):=hp
 show W prog κ 351 _ _ ([(0,.slice la ln lc),(1,.slice ra als0.length rc),(2,.slice ea es0.length ec),(4,.slice qa rs0.length qc),(5,e7 nodes),(6,e7 n),(10,.pointer (some ⟨b1,0,none⟩)),(79,.bool b79)]:Env) (e8 b1 [e7 kd,e7 wd,e7 mo] 31::I)
 refine D8 C (λc79=>?_) (λc79=>?_)
 ·refine Aj (G.e (Ac c_ C C (ar2 (Cb hT Af))) ?_)
  rintro _ _ ⟨_,_,⟨rfl,rfl⟩,rfl,rfl⟩
  exact Ga C (Aq (Bq (Az (Ak C C I Af ⟨rfl,rfl⟩))))
 refine A4 (Al (Ax (Aj (Gm C ?_))))
 have hb:=hb79 (by first|assumption|(simpa using c79))
 refine Gr (Bj Be C) (Gm C (Aq (A3 (B4 (σ:=Nat) (λs=>([(0,.slice la ln lc),(1,.slice ra als0.length rc),(2,.slice ea es0.length ec),(4,.slice qa rs0.length qc),(5,e7 nodes),(6,e7 n),(10,.pointer (some ⟨b1,0,none⟩)),(81,.slice ra als0.length rc),(82,e7 ((als0.length:Nat):Int)),(83,e7 ((s:Nat):Int))]:Env)) (λs=>e8 b1 [e7 kd,e7 wd,e7 mo] 31::I) (λs=>(s<=als0.length)) (λs=>als0.length - s) 0 (show ((0:Nat)<=als0.length) from om) (Aa C (Aa C (Aa C (Aa C (Aa C (Aa C (Aa C (Aa C (Aa C (Aa Co A9)))))))))) (show Fit κ _ (e8 b1 [e7 kd,e7 wd,e7 mo] 31::I) from Ar) ?_))))
 rintro k hp
 have hk:=hp
 refine Aj (Gr (Bp C C) (Aq (Ax (Am C (λc84=>?_) (λc84=>?_)))))
 ·refine A4 (Al (Ax (A3 (Aj (Gr (A2 (α:=AlV) (xs:=als0) Be P1 C C (Bc hr) om olp) (Gr (Cd (α:=AlV) (xs:=als0) P1 C (Bc hr) om olp) (Ge1 (Ah P1 C) λb2=>Ge0 (Dp P1) ?_)))))))
  refine Aq (A0 (S11 16 0 1 2 4 5 6 10 81 82 83 C C C C C C C C C C C) (Aj (Gf bw1 C (Gl ab3 ?_))))
  refine Gr (Bj Ab C) (Gr (Cl C C) (Aq (A0 (S11 90 0 1 2 4 5 6 10 81 82 83 C C C C C C C C C C C) (Am C (λc90=>?_) (λc90=>?_)))))
  ·refine Aj (G.e (Ac c_ C C (ar2 (Cb hT Af))) ?_)
   rintro _ _ ⟨_,_,⟨rfl,rfl⟩,rfl,rfl⟩
   exact Ga C (Aq (Bq (Bf (Az (Az (Bf (Az (Ak C C I Af ⟨rfl,rfl⟩))))))))
  exact A4 (Ap (Al (A1 (Gr (Rad C C) (Gm C (Bl (Bh ((k+1)) om)))))))
 refine B6 (Ao (Ao (A5 (Al (Aj (Gm C (G.e (Ac c_ C C go5) ?_)))))))
 rintro _ _ ⟨_,_,⟨dk3,rfl,rfl⟩,rfl,rfl⟩
 show G prog κ _ _ _ _ ([(94,.pointer (some ⟨dk3,0,none⟩)),(93,.slice la ln lc),(84,.bool (decide ((k:Int)<((als0.length:Nat):Int)))),(0,.slice la ln lc),(1,.slice ra als0.length rc),(2,.slice ea es0.length ec),(4,.slice qa rs0.length qc),(5,e7 nodes),(6,e7 n),(10,.pointer (some ⟨b1,0,none⟩)),(81,.slice ra als0.length rc),(82,e7 ((als0.length:Nat):Int)),(83,e7 ((k:Int)))]:Env) (e8 dk3 [.slice la ln lc,e7 0] 125::e8 b1 [e7 kd,e7 wd,e7 mo] 31::I)
 have hi0:(0:Int)<=0:=Hn _
 refine Ga C (Aq (A0 (S7 17 1 2 4 5 6 10 C C C C C C C) (Aj (Gm C (G.e (Ac c_ C C (F5 (by repeat (first|exact AtF.head _ _|apply AtF.tail)) (Bc hl) om om)) ?_)))))
 rintro _ _ ⟨_,_,⟨x4,i5,rfl,hx4,hi5,rfl⟩,rfl,rfl⟩
 show G prog κ _ _ _ _ ([(96,e7 x4),(95,.pointer (some ⟨dk3,0,none⟩)),(17,.pointer (some ⟨dk3,0,none⟩)),(1,.slice ra als0.length rc),(2,.slice ea es0.length ec),(4,.slice qa rs0.length qc),(5,e7 nodes),(6,e7 n),(10,.pointer (some ⟨b1,0,none⟩))]:Env) (e8 dk3 [.slice la ln lc,e7 i5] 125::e8 b1 [e7 kd,e7 wd,e7 mo] 31::I)
 refine Gr (Rad C C) (Ga C ?_)
 generalize hnn:2+x4=nn
 have hn2:2<=nn/\nn<=5:=by omega
 refine Aq (Aj (Gm C (Gm C (G.e (Ac c_ C C (cr1 (by repeat (first|exact AtF.head _ _|apply AtF.tail)) (λ_=>Bs hl Af) om  om om)) ?_))))
 rintro _ _ ⟨_,_,⟨⟨ad6,cp7,es8,i9⟩,⟨⟨rfl,hses8⟩,hi9⟩,rfl⟩,rfl,rfl⟩
 show G prog κ _ _ _ _ ([(100,.slice ad6 es8.length cp7),(99,e7 nn),(98,.pointer (some ⟨dk3,0,none⟩)),(18,e7 nn),(97,e7 nn),(96,e7 x4),(95,.pointer (some ⟨dk3,0,none⟩)),(17,.pointer (some ⟨dk3,0,none⟩)),(1,.slice ra als0.length rc),(2,.slice ea es0.length ec),(4,.slice qa rs0.length qc),(5,e7 nodes),(6,e7 n),(10,.pointer (some ⟨b1,0,none⟩))]:Env) (vc 108 (.slice ad6 es8.length cp7) (es8)::e8 dk3 [.slice la ln lc,e7 i9] 125::e8 b1 [e7 kd,e7 wd,e7 mo] 31::I)
 have hi9:0<=i9:=hi9
 dsimp only at hses8
 refine Gm C (G.e (Ac c_ C C (ci6 (by repeat (first|exact AtF.head _ _|apply AtF.tail)) (λ_=>Bs hl Af) om  )) ?_)
 rintro _ _ ⟨_,_,⟨⟨kd10,wd11,mo12,i13⟩,⟨⟨rfl,hwkd10⟩,hi13⟩,rfl⟩,rfl,rfl⟩
 show G prog κ _ _ _ _ ([(102,.agg #[e7 kd10,e7 wd11,e7 mo12]),(101,.pointer (some ⟨dk3,0,none⟩)),(100,.slice ad6 es8.length cp7),(99,e7 nn),(98,.pointer (some ⟨dk3,0,none⟩)),(18,e7 nn),(97,e7 nn),(96,e7 x4),(95,.pointer (some ⟨dk3,0,none⟩)),(17,.pointer (some ⟨dk3,0,none⟩)),(1,.slice ra als0.length rc),(2,.slice ea es0.length ec),(4,.slice qa rs0.length qc),(5,e7 nodes),(6,e7 n),(10,.pointer (some ⟨b1,0,none⟩))]:Env) (vc 108 (.slice ad6 es8.length cp7) (es8)::e8 dk3 [.slice la ln lc,e7 i13] 125::e8 b1 [e7 kd,e7 wd,e7 mo] 31::I)
 have hi13:0<=i13:=hi13
 refine Ge1 (Ah ah8 C) λb14=>Ga C (Ge0 (ck1 ah8) ?_)
 have hel:es8.length<=19:=by omega
 refine Aq (A0 (S10 19 20 18 17 1 2 4 5 6 10 C C C C C C C C C C) (Aj (Gm C (Gm C (G.e (Ac c_ C C (Cm (J:=e8 dk3 [.slice la ln lc,e7 i13] 125::e8 b14 [e7 kd10,e7 wd11,e7 mo12] 31::vc 108 (.slice ad6 es8.length cp7) (es8)::e8 b1 [e7 kd,e7 wd,e7 mo] 31::I) Bi (cr2 (Bc hl) om om))) ?_)))))
 rintro _ _ ⟨_,_,⟨ad15,cp16,als17,i18,rfl,hokals17,hlnals17,hi18,rfl⟩,rfl,rfl⟩
 refine Fo (J:=vc 42 (.slice ad15 als17.length cp16) (als17)::e8 dk3 [.slice la ln lc,e7 i18] 125::e8 b14 [e7 kd10,e7 wd11,e7 mo12] 31::vc 108 (.slice ad6 es8.length cp7) (es8)::e8 b1 [e7 kd,e7 wd,e7 mo] 31::(ba7 3 (alR als17)++I)) (Fit.perm (List.Perm.cons _ (bf7 (A:=ba7 3 (alR als17)) (L:=[e8 dk3 [.slice la ln lc,e7 i18] 125,e8 b14 [e7 kd10,e7 wd11,e7 mo12] 31,vc 108 (.slice ad6 es8.length cp7) es8,e8 b1 [e7 kd,e7 wd,e7 mo] 31]) (T:=I)))) ?_
 show G prog κ _ _ _ _ ([(105,.slice ad15 als17.length cp16),(104,e7 nn),(103,.pointer (some ⟨dk3,0,none⟩)),(19,.slice ad6 es8.length cp7),(20,.pointer (some ⟨b14,0,none⟩)),(18,e7 nn),(17,.pointer (some ⟨dk3,0,none⟩)),(1,.slice ra als0.length rc),(2,.slice ea es0.length ec),(4,.slice qa rs0.length qc),(5,e7 nodes),(6,e7 n),(10,.pointer (some ⟨b1,0,none⟩))]:Env) (vc 42 (.slice ad15 als17.length cp16) (als17)::e8 dk3 [.slice la ln lc,e7 i18] 125::e8 b14 [e7 kd10,e7 wd11,e7 mo12] 31::vc 108 (.slice ad6 es8.length cp7) (es8)::e8 b1 [e7 kd,e7 wd,e7 mo] 31::(ba7 3 (alR als17)++I))
 refine Ga C (Aq (A0 (S11 21 19 20 18 17 1 2 4 5 6 10 C C C C C C C C C C C) (Aj (Gm C (Ge2 (Eff.clone (α:=AlV) (ys:=als17) Be P1 C C C A6 olp dc C) λad19 cp20=>?_)))))
 refine Gm C (Gm C (Gr (Rad C C) (G.e (Ac c_ C C (bs9 (by repeat (first|exact AtF.head _ _|apply AtF.tail)) (λ_=>Bs hl Af) om  om)) ?_)))
 rintro _ _ ⟨_,_,⟨⟨xa21,i22⟩,⟨⟨rfl,haxa21,habxa21⟩,hi22⟩,rfl⟩,rfl,rfl⟩
 show G prog κ _ _ _ _ ([(111,.agg #[e7 (xa21.kd),e7 (xa21.no),e7 (xa21.lv),.slice xa21.a xa21.xs.length xa21.c,e7 (xa21.num),e7 (xa21.den)]),(110,e7 (nn+3)),(109,e7 nn),(108,.pointer (some ⟨dk3,0,none⟩)),(107,.slice ad19 (als17).length cp20),(106,.slice ad15 als17.length cp16),(21,.slice ad15 als17.length cp16),(19,.slice ad6 es8.length cp7),(20,.pointer (some ⟨b14,0,none⟩)),(18,e7 nn),(17,.pointer (some ⟨dk3,0,none⟩)),(1,.slice ra als0.length rc),(2,.slice ea es0.length ec),(4,.slice qa rs0.length qc),(5,e7 nodes),(6,e7 n),(10,.pointer (some ⟨b1,0,none⟩))]:Env) (vc 3 (.slice xa21.a xa21.xs.length xa21.c) (xa21.xs)::vc 42 (.slice ad19 (als17).length cp20) (als17)::vc 42 (.slice ad15 als17.length cp16) (als17)::e8 dk3 [.slice la ln lc,e7 i22] 125::e8 b14 [e7 kd10,e7 wd11,e7 mo12] 31::vc 108 (.slice ad6 es8.length cp7) (es8)::e8 b1 [e7 kd,e7 wd,e7 mo] 31::(ba7 3 (alR als17)++I))
 have hi22:0<=i22:=hi22
 refine Ge1 (Bt (α:=AlV) (cs:=[e7 (xa21.kd),e7 (xa21.no),e7 (xa21.lv),.slice xa21.a xa21.xs.length xa21.c,e7 (xa21.num),e7 (xa21.den)]) (xs:=[⟨xa21.kd,xa21.no,xa21.lv,xa21.a,xa21.c,xa21.xs,xa21.num,xa21.den⟩]) Be P1 C C dc dc C kr C C) λad23=>?_
 refine Ge2 (Bv (α:=AlV) (e:=42) (xs:=als17) (ys:=([⟨xa21.kd,xa21.no,xa21.lv,xa21.a,xa21.c,xa21.xs,xa21.num,xa21.den⟩]:List AlV)) Be P1 C C C mm A6 olp dc C (λ_ _=>am)) λad24 cp25=>?_
 refine Ga C ?_
 have hL0:∀z∈(als17++([⟨xa21.kd,xa21.no,xa21.lv,xa21.a,xa21.c,xa21.xs,xa21.num,xa21.den⟩]:List AlV)),Sl κ (vc 3 (.slice xa21.a xa21.xs.length xa21.c) (xa21.xs)::(ba7 3 (alR als17)++I)) (.slice z.a z.xs.length z.c) z.xs:=λz hz=>(Gu.1 hz).elim (λh=>Bs (da5 (I:=I) z h) Af) (λh=>by rw [Gj.1 h];exact Ed mm)
 have hLb:(als17++([⟨xa21.kd,xa21.no,xa21.lv,xa21.a,xa21.c,xa21.xs,xa21.num,xa21.den⟩]:List AlV)).length=als17.length+1:=by simp only [A_,Fu,F_]
 have hLv:∀z∈(als17++([⟨xa21.kd,xa21.no,xa21.lv,xa21.a,xa21.c,xa21.xs,xa21.num,xa21.den⟩]:List AlV)),0<=z.lv/\z.lv<=64:=λz hz=>(Gu.1 hz).elim (λh=>(hokals17 z h).lvb) (λh=>by rw [Gj.1 h];exact haxa21.lvb)
 generalize (als17++([⟨xa21.kd,xa21.no,xa21.lv,xa21.a,xa21.c,xa21.xs,xa21.num,xa21.den⟩]:List AlV))=ob at hL0 hLb hLv ⊢
 have hLw:=hLv (e_ ob (((ob.length:Nat):Int) - 1)) (B3 (xs:=ob) (i:=((ob.length:Nat):Int) - 1) om om)
 refine Aq (A0 (S12 22 21 19 20 18 17 1 2 4 5 6 10 C C C C C C C C C C C C) (Ax (A8 mixed (Cf (vc 42 (.slice ad23 1 1) (([⟨xa21.kd,xa21.no,xa21.lv,xa21.a,xa21.c,xa21.xs,xa21.num,xa21.den⟩]:List AlV))::vc 3 (.slice xa21.a xa21.xs.length xa21.c) (xa21.xs)::vc 42 (.slice ad24 ob.length cp25) (ob)::vc 42 (.slice ad15 als17.length cp16) (als17)::e8 b14 [e7 kd10,e7 wd11,e7 mo12] 31::vc 108 (.slice ad6 es8.length cp7) (es8)::e8 b1 [e7 kd,e7 wd,e7 mo] 31::(ba7 3 (alR als17)++I)) 13 (Dr 0 C (Ad C) (Dr 1 C (Ad C) (Dr 2 C (Bj Be C) (Dr 3 C (Rsu C C) (Dr 4 C (A2 (α:=AlV) (xs:=ob) Be P1 C C A6 om olp) (Dr 5 C (D4 (α:=AlV) (xs:=ob) aw7 C A6 olp) (Dr 6 C (D9 (α:=AlV) (xs:=ob) (u:=e7 ((e_ ob (((ob.length:Nat):Int) - 1)).lv)) ef C A6 om olp C) (Dr 7 C (Ad C) (Ds1 8 (Se C (Ac c_ C C (F5 (by repeat (first|exact AtF.head _ _|apply AtF.tail)) (Bc hl) om om)) ?_))))))))))))))
 rintro _ _ ⟨_,_,⟨x26,i27,rfl,hx26,hi27,rfl⟩,rfl,rfl⟩
 refine ⟨Ar,?_⟩
 show D prog κ _ _ _ _ _ _ _ ([(122,e7 x26),(121,.pointer (some ⟨dk3,0,none⟩)),(120,e7 ((e_ ob (((ob.length:Nat):Int) - 1)).lv)),(119,s6 (.slice ad24 ob.length cp25) ((((ob.length:Nat):Int) - 1).toNat*Enc.sz AlV+2)),(118,s6 (.slice ad24 ob.length cp25) ((((ob.length:Nat):Int) - 1).toNat*Enc.sz AlV)),(117,e7 (((ob.length:Nat):Int) - 1)),(116,e7 ((ob.length:Nat):Int)),(115,.slice ad24 ob.length cp25),(114,.slice ad24 ob.length cp25),(22,.slice ad24 ob.length cp25),(21,.slice ad15 als17.length cp16),(19,.slice ad6 es8.length cp7),(20,.pointer (some ⟨b14,0,none⟩)),(18,e7 nn),(17,.pointer (some ⟨dk3,0,none⟩)),(1,.slice ra als0.length rc),(2,.slice ea es0.length ec),(4,.slice qa rs0.length qc),(5,e7 nodes),(6,e7 n),(10,.pointer (some ⟨b1,0,none⟩))]:Env) (vc 42 (.slice ad23 1 1) (([⟨xa21.kd,xa21.no,xa21.lv,xa21.a,xa21.c,xa21.xs,xa21.num,xa21.den⟩]:List AlV))::vc 3 (.slice xa21.a xa21.xs.length xa21.c) (xa21.xs)::vc 42 (.slice ad24 ob.length cp25) (ob)::vc 42 (.slice ad15 als17.length cp16) (als17)::e8 dk3 [.slice la ln lc,e7 i27] 125::e8 b14 [e7 kd10,e7 wd11,e7 mo12] 31::vc 108 (.slice ad6 es8.length cp7) (es8)::e8 b1 [e7 kd,e7 wd,e7 mo] 31::(ba7 3 (alR als17)++I))
 refine Dr 9 C (Eg C C (by unfold InR;omega)) (Dr 10 C (Rad C C) (Ds1 11 (Sr C (A2 (α:=AlV) (xs:=ob) Be P1 C C A6 om olp) Ar ?_)))
 refine Dr 12 C (D4 (α:=AlV) (xs:=ob) aw7 C A6 olp) (De kr ?_)
 refine Ae 13 C (Eff.gg4 (α:=AlV) (xs:=ob) (e:=42) (new:={e_ ob (((ob.length:Nat):Int) - 1) with lv:=((e_ ob (((ob.length:Nat):Int) - 1)).lv)+(x26*70)}) (j:=2) ef C C C C dc C om olp am) ?_
 rintro _ _ ⟨rfl,rfl⟩
 have hL1:∀z∈List.set ob (((ob.length:Nat):Int) - 1).toNat ({e_ ob (((ob.length:Nat):Int) - 1) with lv:=((e_ ob (((ob.length:Nat):Int) - 1)).lv)+(x26*70)}),Sl κ (vc 3 (.slice xa21.a xa21.xs.length xa21.c) (xa21.xs)::(ba7 3 (alR als17)++I)) (.slice z.a z.xs.length z.c) z.xs:=λz hz=>(Lc hz).elim (hL0 z) (λh=>by rw [h];exact hL0 (e_ ob (((ob.length:Nat):Int) - 1)) (B3 (xs:=ob) (i:=((ob.length:Nat):Int) - 1) om om))
 have hLn:ob.length=(List.set ob (((ob.length:Nat):Int) - 1).toNat ({e_ ob (((ob.length:Nat):Int) - 1) with lv:=((e_ ob (((ob.length:Nat):Int) - 1)).lv)+(x26*70)})).length:=by simp only [Gd]
 generalize List.set ob (((ob.length:Nat):Int) - 1).toNat ({e_ ob (((ob.length:Nat):Int) - 1) with lv:=((e_ ob (((ob.length:Nat):Int) - 1)).lv)+(x26*70)})=ol at hL1 hLn ⊢
 rw [hLn]
 refine Df kr ?_
 refine Al (A0 (S12 22 21 19 20 18 17 1 2 4 5 6 10 C C C C C C C C C C C C) (Aj (Ge2 (Ca (α:=AlV) (n:=17) Be P1 C C C om om dc C) λad28 cp29=>?_)))
 refine Ga C (Aq (A0 (S13 23 22 21 19 20 18 17 1 2 4 5 6 10 C C C C C C C C C C C C C) (Ax (Aj (Gm C (Gr (Bj Be C) (Gm C (Aq (A0 (S15 130 129 23 22 21 19 20 18 17 1 2 4 5 6 10 C C C C C C C C C C C C C C C) (A3 (B4 (σ:=Nat×(List AlV)) (λs=>([(1,.slice ra als0.length rc),(2,.slice ea es0.length ec),(4,.slice qa rs0.length qc),(5,e7 nodes),(6,e7 n),(10,.pointer (some ⟨b1,0,none⟩)),(17,.pointer (some ⟨dk3,0,none⟩)),(18,e7 nn),(19,.slice ad6 es8.length cp7),(20,.pointer (some ⟨b14,0,none⟩)),(21,.slice ad15 als17.length cp16),(22,.slice ad24 ol.length cp25),(23,.slice ad28 (replicate 17 (default:AlV)).length cp29),(129,e7 ((((replicate 17 (default:AlV)).length:Nat):Int))),(130,e7 ((s.1:Nat):Int))]:Env)) (λs=>vc 42 (.slice ad28 (replicate 17 (default:AlV)).length cp29) (s.2)::vc 42 (.slice ad23 1 1) (([⟨xa21.kd,xa21.no,xa21.lv,xa21.a,xa21.c,xa21.xs,xa21.num,xa21.den⟩]:List AlV))::vc 3 (.slice xa21.a xa21.xs.length xa21.c) (xa21.xs)::vc 42 (.slice ad24 ol.length cp25) (ol)::vc 42 (.slice ad15 als17.length cp16) (als17)::e8 dk3 [.slice la ln lc,e7 i27] 125::e8 b14 [e7 kd10,e7 wd11,e7 mo12] 31::vc 108 (.slice ad6 es8.length cp7) (es8)::e8 b1 [e7 kd,e7 wd,e7 mo] 31::(ba7 3 (alR als17)++I)) (λs=>(s.1<=17)/\(s.2.length=17)/\(∀z∈s.2,z.a=none/\z.c=0/\z.xs=[])) (λs=>17 - s.1) (0,replicate 17 (default:AlV)) (show ((0:Nat)<=17)/\((replicate 17 (default:AlV):List AlV).length=17)/\(∀z∈(replicate 17 (default:AlV):List AlV),z.a=none/\z.c=0/\z.xs=[]) from ⟨om,Fw,(λz hz=>by rw [Ns hz];exact ⟨rfl,rfl,rfl⟩)⟩) (Aa C (Aa C (Aa C (Aa C (Aa C (Aa C (Aa C (Aa C (Aa C (Aa C (Aa C (Aa C (Aa C (Aa C (Aa Co A9))))))))))))))) (show Fit κ _ (vc 42 (.slice ad28 (replicate 17 (default:AlV)).length cp29) ((replicate 17 (default:AlV)))::vc 42 (.slice ad23 1 1) (([⟨xa21.kd,xa21.no,xa21.lv,xa21.a,xa21.c,xa21.xs,xa21.num,xa21.den⟩]:List AlV))::vc 3 (.slice xa21.a xa21.xs.length xa21.c) (xa21.xs)::vc 42 (.slice ad24 ol.length cp25) (ol)::vc 42 (.slice ad15 als17.length cp16) (als17)::e8 dk3 [.slice la ln lc,e7 i27] 125::e8 b14 [e7 kd10,e7 wd11,e7 mo12] 31::vc 108 (.slice ad6 es8.length cp7) (es8)::e8 b1 [e7 kd,e7 wd,e7 mo] 31::(ba7 3 (alR als17)++I)) from Bi) ?_)))))))))))
 rintro ⟨k,ml⟩ hp
 dsimp only at hp ⊢
 obtain ⟨hk,hml,hmp⟩:=hp
 have hrl:(replicate 17 (default:AlV)).length=17:=Fw
 refine Aj (Gr (Bp C C) (Aq (A0 (S16 131 1 2 4 5 6 10 17 18 19 20 21 22 23 129 130 C C C C C C C C C C C C C C C C) (Ax (Am C (λc131=>?_) (λc131=>?_))))))
 ·refine A4 (Al (A0 (S15 1 2 4 5 6 10 17 18 19 20 21 22 23 129 130 C C C C C C C C C C C C C C C) (Ax (A3 (Aj (Gm C (Ga C (Aq (A0 (S16 24 1 2 4 5 6 10 17 18 19 20 21 22 23 129 130 C C C C C C C C C C C C C C C C) (A1 (Gm C (Gm C (Gr (B1 (cells:=[_,_,_,_,_,_]) P1 C9 gq2 C C) (Gr (A2 (α:=AlV) (xs:=ml) Be P1 C C A6 om olp) (Ge0 (Cr (α:=AlV) (xs:=ml) (e:=42) (new:=⟨4,0,0,none,0,[],0,0⟩) P1 C C C om olp am) ?_)))))))))))))))
  exact Bl (Ap (Al (A0 (S15 1 2 4 5 6 10 17 18 19 20 21 22 23 129 130 C C C C C C C C C C C C C C C) (A1 (Gr (Rad C C) (Gm C (Bl (Bh ((k+1),(List.set ml ((k:Int)).toNat (⟨4,0,0,none,0,[],0,0⟩))) (by dsimp only;exact ⟨om,(by rw [Gd];exact hml),(λz hz=>(Lc hz).elim (hmp z) (λh=>by subst h;exact ⟨rfl,rfl,rfl⟩))⟩)))))))))
 refine B6 (Ao (Ao (A5 (Al (A0 (S13 1 2 4 5 6 10 17 18 19 20 21 22 23 C C C C C C C C C C C C C) (Ax (D2 (σ:=(List Item)×(List (ah9 AlV))×(Option Addr)×Int) (λs=>([(2,.slice ea es0.length ec),(4,.slice qa rs0.length qc),(5,e7 nodes),(6,e7 n),(10,.pointer (some ⟨b1,0,none⟩)),(17,.pointer (some ⟨dk3,0,none⟩)),(18,e7 nn),(19,.slice ad6 es8.length cp7),(20,.pointer (some ⟨b14,0,none⟩)),(144,.slice s.2.2.1 5 5),(145,e7 ((5:Nat):Int)),(146,e7 0)]:Env)) (λs=>e8 dk3 [.slice la ln lc,e7 (s.2.2.2)] 125::vc 33 (.slice s.2.2.1 5 5) (s.2.1)::e8 b14 [e7 kd10,e7 wd11,e7 mo12] 31::e8 b1 [e7 kd,e7 wd,e7 mo] 31::s.1) (λs=>(Fit κ s.1 I)/\(s.2.1.length=5)/\(∀r∈s.2.1,gy0 κ s.1 r)/\(Sl κ s.1 (.slice ad6 es8.length cp7) es8)/\(0<=s.2.2.2)) ?_ ?_)))))))
 ·refine A1 (Gm C ?_)
  rw [show (replicate 17 (default:AlV)).length=ml.length by rw [Fw,hml]]
  refine Gm C (Gm C (Gm C (Gm C (Gr (En (α:=AlV) (xs:=ml) (l:=1) Be P1 C C om A6 om) (Ge1 (Bt (α:=(ah9 AlV)) (cs:=[.slice ra als0.length rc,.slice ad15 als17.length cp16,.slice ad24 ol.length cp25,.slice ad28 ml.length cp29,.slice (M0 ad28 cp29 1 (Enc.sz AlV)) (List.drop 1 ml).length (cp29 - 1)]) (xs:=[⟨ra,rc,als0⟩,⟨ad15,cp16,als17⟩,⟨ad24,cp25,ol⟩,⟨ad28,cp29,ml⟩,⟨(M0 ad28 cp29 1 (Enc.sz AlV)),(cp29 - 1),List.drop 1 ml⟩]) E7 gp3 C C dc dc C kr C C) λad30=>?_)))))
  exact Gr (Bj E7 C) (Gm C (Bl (Bu (((vc 42 (.slice ad28 ml.length cp29) (ml)::vc 42 (.slice ad23 1 1) (([⟨xa21.kd,xa21.no,xa21.lv,xa21.a,xa21.c,xa21.xs,xa21.num,xa21.den⟩]:List AlV))::vc 3 (.slice xa21.a xa21.xs.length xa21.c) (xa21.xs)::vc 42 (.slice ad24 ol.length cp25) (ol)::vc 42 (.slice ad15 als17.length cp16) (als17)::vc 108 (.slice ad6 es8.length cp7) (es8)::(ba7 3 (alR als17)++I))),(([⟨ra,rc,als0⟩,⟨ad15,cp16,als17⟩,⟨ad24,cp25,ol⟩,⟨ad28,cp29,ml⟩,⟨(M0 ad28 cp29 1 (Enc.sz AlV)),(cp29 - 1),List.drop 1 ml⟩]:List (ah9 AlV))),(ad30),(i27)) (by dsimp only;exact ⟨Af,rfl,(Lw.2 ⟨⟨Bs hr Af,λx hx=>Bs (hrs x hx) Af,(by dsimp only;omega)⟩,Lw.2 ⟨⟨Ed mm,λx hx=>Bs (da5 (I:=I) x hx) Af,(by dsimp only;omega)⟩,Lw.2 ⟨⟨Ed mm,λx hx=>Bs (hL1 x hx) Bi,(by dsimp only;omega)⟩,Lw.2 ⟨⟨Ed mm,λx hx=>by obtain ⟨h1,h2,h3⟩:=hmp x hx;rw [h1,h2,h3];exact Sl.nil _,(by dsimp only;omega)⟩,Lw.2 ⟨⟨D6 A6 om,λx hx=>by obtain ⟨h1,h2,h3⟩:=hmp x (List.mem_of_mem_drop hx);rw [h1,h2,h3];exact Sl.nil _,(by simp only [Ge];omega)⟩,λx hx=>by cases hx⟩⟩⟩⟩⟩),A6,om⟩))))
 rintro ⟨T,RL,pa,iq⟩ hp
 obtain ⟨hTI,hRL,hall,hTh,hiq⟩:(Fit κ T I)/\(RL.length=5)/\(∀r∈RL,gy0 κ T r)/\(Sl κ T (.slice ad6 es8.length cp7) es8)/\(0<=iq):=hp
 show W prog κ 351 _ _ ([(2,.slice ea es0.length ec),(4,.slice qa rs0.length qc),(5,e7 nodes),(6,e7 n),(10,.pointer (some ⟨b1,0,none⟩)),(17,.pointer (some ⟨dk3,0,none⟩)),(18,e7 nn),(19,.slice ad6 es8.length cp7),(20,.pointer (some ⟨b14,0,none⟩)),(144,.slice pa 5 5),(145,e7 ((5:Nat):Int)),(146,e7 0)]:Env) (e8 dk3 [.slice la ln lc,e7 iq] 125::vc 33 (.slice pa 5 5) (RL)::e8 b14 [e7 kd10,e7 wd11,e7 mo12] 31::e8 b1 [e7 kd,e7 wd,e7 mo] 31::T)
 have hTl:=Bs hl hTI
 have hTe:=Bs he hTI
 have hTq:=Bs hq hTI
 have hTT:=Cb hT hTI
 refine A3 (B4 (σ:=Nat×Int) (λs=>([(2,.slice ea es0.length ec),(4,.slice qa rs0.length qc),(5,e7 nodes),(6,e7 n),(10,.pointer (some ⟨b1,0,none⟩)),(17,.pointer (some ⟨dk3,0,none⟩)),(18,e7 nn),(19,.slice ad6 es8.length cp7),(20,.pointer (some ⟨b14,0,none⟩)),(144,.slice pa 5 5),(145,e7 ((5:Nat):Int)),(146,e7 ((s.1:Nat):Int))]:Env)) (λs=>e8 dk3 [.slice la ln lc,e7 (s.2)] 125::vc 33 (.slice pa 5 5) (RL)::e8 b14 [e7 kd10,e7 wd11,e7 mo12] 31::e8 b1 [e7 kd,e7 wd,e7 mo] 31::T) (λs=>(s.1<=5)/\(0<=s.2)) (λs=>5 - s.1) (0,iq) (show ((0:Nat)<=5)/\(0<=(iq:Int)) from ⟨om,om⟩) (Aa C (Aa C (Aa C (Aa C (Aa C (Aa C (Aa C (Aa C (Aa C (Aa C (Aa C (Aa Co A9)))))))))))) (show Fit κ _ (e8 dk3 [.slice la ln lc,e7 ((iq))] 125::vc 33 (.slice pa 5 5) (RL)::e8 b14 [e7 kd10,e7 wd11,e7 mo12] 31::e8 b1 [e7 kd,e7 wd,e7 mo] 31::T) from Bi) ?_)
 rintro ⟨k,iq2⟩ hp
 dsimp only at hp ⊢
 obtain ⟨hk,hiq2⟩:=hp
 refine Aj (Gr (Bp C C) (Aq (Ax (Am C (λc147=>?_) (λc147=>?_)))))
 ·refine A4 (Al (Ax (A3 (Aj (Gr (A2 (α:=(ah9 AlV)) (xs:=RL) E7 gp3 C C A6 om olp) (Gr (E5 (α:=(ah9 AlV)) (xs:=RL) (u:= .slice (e_ RL k).a (e_ RL k).xs.length (e_ RL k).c) gp3 C A6 om olp C) ?_))))))
  have hrw:=hall _ (B3 (xs:=RL) (i:=(k:Int)) om om)
  generalize hRw:e_ RL k=Rw at hrw ⊢
  have hrwl:=hrw.len
  refine Ga C (Aq (A0 (S13 26 2 4 5 6 10 17 18 19 20 144 145 146 C C C C C C C C C C C C C) (Aj (Gm C (Gm C (Gl3 ah8 ?_))))))
  refine Gm C (G.e (Ac c_ C C (bj2 (nd:=nn) (kd:=kd10) (wd:=wd11) (mo:=mo12) (es:=es8) (als:=Rw.xs) (ea:=ad6) (ec:=cp7) (aa:=Rw.a) (ac:=Rw.c) (Bc hTh) (Bc hrw.sl) (λx hx=>Bs (hrw.fx4 x hx) Af) om (Cb hTT Af))) ?_)
  rintro _ _ ⟨_,_,⟨ad31,cp32,rfl,rfl⟩,rfl,rfl⟩
  refine Gm C (Gr (Av C C) (Gr (Av C C) (Ga C (Ga C (Aq (A0 (S15 28 27 26 2 4 5 6 10 17 18 19 20 144 145 146 C C C C C C C C C C C C C C C) (Aj (Gm C (Gm C (Gl3 ah8 ?_))))))))))
  refine Gm C (Gc2 (Ac c_ C C (ch1 (nd:=nn) (kd:=kd10) (wd:=wd11) (mo:=mo12) (es:=es8) (als:=Rw.xs) (ea:=ad6) (ec:=cp7) (aa:=Rw.a) (ac:=Rw.c) (Bc hTh) (Bc hrw.sl) (λx hx=>Bs (hrw.fx4 x hx) Af) om om)) λad33 cp34=>?_)
  refine Gm C (Gr (Av C C) (Gr (Av C C) (Ga C (Ga C ?_))))
  generalize ap2 nn kd10 wd11 mo12 es8 Rw.xs=Wp
  generalize au9 nn kd10 wd11 mo12 es8 Rw.xs=Erp
  refine Aq (A0 (S17 30 29 28 27 26 2 4 5 6 10 17 18 19 20 144 145 146 C C C C C C C C C C C C C C C C C) (Aj (Gm C (Gm C (Gl3 ah8 ?_)))))
  refine Gm C (G.e (Ac c_ C C (bj2 (nd:=nodes) (kd:=kd) (wd:=wd) (mo:=mo) (es:=es0) (als:=Rw.xs) (ea:=ea) (ec:=ec) (aa:=Rw.a) (ac:=Rw.c) (Bc hTe) (Bc hrw.sl) (λx hx=>Bs (hrw.fx4 x hx) Af) om (Cb hTT Af))) ?_)
  rintro _ _ ⟨_,_,⟨ad35,cp36,rfl,rfl⟩,rfl,rfl⟩
  refine Gm C (Gr (Av C C) (Gr (Av C C) (Ga C (Ga C (Aq (A0 (L':=[(32,_),(31,_),(30,_),(29,_),(28,_),(27,_),(26,_),(2,_),(4,_),(5,_),(6,_),(10,_),(17,_),(18,_),(19,_),(20,_),(144,_),(145,_),(146,_)]) (Aa C (Aa C (Aa C (Aa C (Aa C (Aa C (Aa C (Aa C (Aa C (Aa C (Aa C (Aa C (Aa C (Aa C (Aa C (Aa C (Aa C (Aa C (Aa C A9))))))))))))))))))) (Aj (Gm C (Gm C (Gl3 ah8 ?_))))))))))
  refine Gm C (Gc2 (Ac c_ C C (ch1 (nd:=nodes) (kd:=kd) (wd:=wd) (mo:=mo) (es:=es0) (als:=Rw.xs) (ea:=ea) (ec:=ec) (aa:=Rw.a) (ac:=Rw.c) (Bc hTe) (Bc hrw.sl) (λx hx=>Bs (hrw.fx4 x hx) Af) om om)) λad37 cp38=>?_)
  refine Gm C (Gr (Av C C) (Gr (Av C C) (Ga C (Ga C ?_))))
  generalize ap2 nodes kd wd mo es0 Rw.xs=Wu
  generalize au9 nodes kd wd mo es0 Rw.xs=Eru
  refine Aq (A0 (L':=[(34,_),(33,_),(32,_),(31,_),(30,_),(29,_),(28,_),(27,_),(26,_),(2,_),(4,_),(5,_),(6,_),(10,_),(17,_),(18,_),(19,_),(20,_),(144,_),(145,_),(146,_)]) (Aa C (Aa C (Aa C (Aa C (Aa C (Aa C (Aa C (Aa C (Aa C (Aa C (Aa C (Aa C (Aa C (Aa C (Aa C (Aa C (Aa C (Aa C (Aa C (Aa C (Aa C A9))))))))))))))))))))) (Ax (Aj (Gm C (Gm C (Gr (Cu C C) (Gm C (Au (d:=185) C (λg185=>?_) (λg185=>?_)))))))))
  ·exact absurd rfl g185
  refine e9 (Ad C) (e9 (Ad C) (D0 (B9 C C C) (Ac c_ C C (bj7 A6 A6)) ?_))
  rintro _ _ ⟨_,_,⟨rfl,rfl⟩,rfl,rfl⟩
  refine e9 (Fi C) (Gr (Bg C C) (Gm C (Au (d:=191) C (λg191=>?_) (λg191=>?_))))
  ·exact absurd rfl g191
  refine e9 (Ad C) (e9 (Ad C) (e9 (Cu C C) (Gr (Bg C C) (Gm C (Au (d:=196) C (λg196=>?_) (λg196=>?_))))))
  ·exact absurd rfl g196
  refine e9 (Ad C) (e9 (Ad C) (D0 (B9 C C C) (Ac c_ C C (bj7 A6 A6)) ?_))
  rintro _ _ ⟨_,_,⟨rfl,rfl⟩,rfl,rfl⟩
  refine e9 (Fi C) (Gr (Bg C C) (Aq (A0 (S15 201 27 26 2 4 5 6 10 17 18 19 20 144 145 146 C C C C C C C C C C C C C C C) (Am C (λc201=>?_) (λc201=>?_)))))
  ·exact absurd rfl c201
  refine A4 (Al (A0 (S14 27 26 2 4 5 6 10 17 18 19 20 144 145 146 C C C C C C C C C C C C C C) (Ax (Aj (Gm C (Gm C (G.e (Ac c_ C C (F5 (by repeat (first|exact AtF.head _ _|apply AtF.tail)) (Bc hTl) om om)) ?_)))))))
  rintro _ _ ⟨_,_,⟨x39,i40,rfl,hx39,hi40,rfl⟩,rfl,rfl⟩
  show G prog κ _ _ _ _ ([(204,e7 x39),(203,.pointer (some ⟨dk3,0,none⟩)),(202,e7 n),(27,.slice ad31 Wp.length cp32),(26,.slice Rw.a Rw.xs.length Rw.c),(2,.slice ea es0.length ec),(4,.slice qa rs0.length qc),(5,e7 nodes),(6,e7 n),(10,.pointer (some ⟨b1,0,none⟩)),(17,.pointer (some ⟨dk3,0,none⟩)),(18,e7 nn),(19,.slice ad6 es8.length cp7),(20,.pointer (some ⟨b14,0,none⟩)),(144,.slice pa 5 5),(145,e7 ((5:Nat):Int)),(146,e7 ((k:Int)))]:Env) (vc 44 (.slice ad37 Wu.length cp38) (Wu)::vc 44 (.slice ad35 Wu.length cp36) (Wu)::vc 44 (.slice ad33 Wp.length cp34) (Wp)::vc 44 (.slice ad31 Wp.length cp32) (Wp)::e8 dk3 [.slice la ln lc,e7 i40] 125::vc 33 (.slice pa 5 5) (RL)::e8 b14 [e7 kd10,e7 wd11,e7 mo12] 31::e8 b1 [e7 kd,e7 wd,e7 mo] 31::T)
  refine Ge1 (Bt (α:=Int) (cs:=[_,_]) (xs:=[n,x39]) Ab ef C C dc dc C C C C) λad41=>?_
  have hTL:(([n,x39]:List Int)).length=2:=rfl
  generalize ([n,x39]:List Int)=TL at hTL ⊢
  refine Gr (Bj Ab C) (Gm C (Aq (A0 (S17 207 206 205 27 26 2 4 5 6 10 17 18 19 20 144 145 146 C C C C C C C C C C C C C C C C C) (A3 (B4 (σ:=Nat) (λs=>([(2,.slice ea es0.length ec),(4,.slice qa rs0.length qc),(5,e7 nodes),(6,e7 n),(10,.pointer (some ⟨b1,0,none⟩)),(17,.pointer (some ⟨dk3,0,none⟩)),(18,e7 nn),(19,.slice ad6 es8.length cp7),(20,.pointer (some ⟨b14,0,none⟩)),(26,.slice Rw.a Rw.xs.length Rw.c),(27,.slice ad31 Wp.length cp32),(144,.slice pa 5 5),(145,e7 ((5:Nat):Int)),(146,e7 ((k:Int))),(205,.slice ad41 2 2),(206,e7 ((2:Nat):Int)),(207,e7 ((s:Nat):Int))]:Env)) (λs=>vc 3 (.slice ad41 2 2) (TL)::vc 44 (.slice ad37 Wu.length cp38) (Wu)::vc 44 (.slice ad35 Wu.length cp36) (Wu)::vc 44 (.slice ad33 Wp.length cp34) (Wp)::vc 44 (.slice ad31 Wp.length cp32) (Wp)::e8 dk3 [.slice la ln lc,e7 i40] 125::vc 33 (.slice pa 5 5) (RL)::e8 b14 [e7 kd10,e7 wd11,e7 mo12] 31::e8 b1 [e7 kd,e7 wd,e7 mo] 31::T) (λs=>(s<=2)) (λs=>2 - s) 0 (show ((0:Nat)<=2) from om) (Aa C (Aa C (Aa C (Aa C (Aa C (Aa C (Aa C (Aa C (Aa C (Aa C (Aa C (Aa C (Aa C (Aa C (Aa C (Aa C (Aa Co A9))))))))))))))))) (show Fit κ _ (vc 3 (.slice ad41 2 2) (TL)::vc 44 (.slice ad37 Wu.length cp38) (Wu)::vc 44 (.slice ad35 Wu.length cp36) (Wu)::vc 44 (.slice ad33 Wp.length cp34) (Wp)::vc 44 (.slice ad31 Wp.length cp32) (Wp)::e8 dk3 [.slice la ln lc,e7 i40] 125::vc 33 (.slice pa 5 5) (RL)::e8 b14 [e7 kd10,e7 wd11,e7 mo12] 31::e8 b1 [e7 kd,e7 wd,e7 mo] 31::T) from Bi) ?_)))))
  rintro k2 hp
  have hk2:=hp
  refine Aj (Gr (Bp C C) (Aq (A0 (L':=[(208,_),(2,_),(4,_),(5,_),(6,_),(10,_),(17,_),(18,_),(19,_),(20,_),(26,_),(27,_),(144,_),(145,_),(146,_),(205,_),(206,_),(207,_)]) (Aa C (Aa C (Aa C (Aa C (Aa C (Aa C (Aa C (Aa C (Aa C (Aa C (Aa C (Aa C (Aa C (Aa C (Aa C (Aa C (Aa C (Aa C A9)))))))))))))))))) (Ax (Am C (λc208=>?_) (λc208=>?_))))))
  ·refine A4 (Al (A0 (S17 2 4 5 6 10 17 18 19 20 26 27 144 145 146 205 206 207 C C C C C C C C C C C C C C C C C) (Ax (A3 (Aj (Gr (A2 (α:=Int) (xs:=TL) Ab ef C C A6 om olp) (Gr (B8 (xs:=TL) ef C A6 om olp) (Ga C (Aq (A0 (L':=[(36,_),(2,_),(4,_),(5,_),(6,_),(10,_),(17,_),(18,_),(19,_),(20,_),(26,_),(27,_),(144,_),(145,_),(146,_),(205,_),(206,_),(207,_)]) (Aa C (Aa C (Aa C (Aa C (Aa C (Aa C (Aa C (Aa C (Aa C (Aa C (Aa C (Aa C (Aa C (Aa C (Aa C (Aa C (Aa C (Aa C A9)))))))))))))))))) (Aj (Gm C (Gm C (Gr (Bj Be C) (Gm C (G.e (Ac c_ C C (ch6 A6 ((Rw.xs.length:Nat):Int) (e_ TL k2))) ?_))))))))))))))))
   rintro _ _ ⟨_,_,⟨ad42,cp43,rfl,K44,rfl,hK44⟩,rfl,rfl⟩
   refine Fo (J:=vc 4 (.slice ad42 (H7 ((Rw.xs.length:Nat):Int) (e_ TL k2) Wp).length cp43) (H7 ((Rw.xs.length:Nat):Int) (e_ TL k2) Wp)::vc 3 (.slice ad41 2 2) (TL)::vc 44 (.slice ad37 Wu.length cp38) (Wu)::vc 44 (.slice ad35 Wu.length cp36) (Wu)::vc 44 (.slice ad33 Wp.length cp34) (Wp)::vc 44 (.slice ad31 Wp.length cp32) (Wp)::e8 dk3 [.slice la ln lc,e7 i40] 125::vc 33 (.slice pa 5 5) (RL)::e8 b14 [e7 kd10,e7 wd11,e7 mo12] 31::e8 b1 [e7 kd,e7 wd,e7 mo] 31::T) hK44 ?_
   show G prog κ _ _ _ _ ([(216,.tuple #[.slice ad42 (H7 ((Rw.xs.length:Nat):Int) (e_ TL k2) Wp).length cp43,e7 (U1 ((Rw.xs.length:Nat):Int) Wp)]),(215,e7 (e_ TL k2)),(214,e7 ((Rw.xs.length:Nat):Int)),(213,.slice Rw.a Rw.xs.length Rw.c),(212,.slice ad31 Wp.length cp32),(36,e7 (e_ TL k2)),(2,.slice ea es0.length ec),(4,.slice qa rs0.length qc),(5,e7 nodes),(6,e7 n),(10,.pointer (some ⟨b1,0,none⟩)),(17,.pointer (some ⟨dk3,0,none⟩)),(18,e7 nn),(19,.slice ad6 es8.length cp7),(20,.pointer (some ⟨b14,0,none⟩)),(26,.slice Rw.a Rw.xs.length Rw.c),(27,.slice ad31 Wp.length cp32),(144,.slice pa 5 5),(145,e7 ((5:Nat):Int)),(146,e7 ((k:Int))),(205,.slice ad41 2 2),(206,e7 ((2:Nat):Int)),(207,e7 ((k2:Int)))]:Env) (vc 4 (.slice ad42 (H7 ((Rw.xs.length:Nat):Int) (e_ TL k2) Wp).length cp43) (H7 ((Rw.xs.length:Nat):Int) (e_ TL k2) Wp)::vc 3 (.slice ad41 2 2) (TL)::vc 44 (.slice ad37 Wu.length cp38) (Wu)::vc 44 (.slice ad35 Wu.length cp36) (Wu)::vc 44 (.slice ad33 Wp.length cp34) (Wp)::vc 44 (.slice ad31 Wp.length cp32) (Wp)::e8 dk3 [.slice la ln lc,e7 i40] 125::vc 33 (.slice pa 5 5) (RL)::e8 b14 [e7 kd10,e7 wd11,e7 mo12] 31::e8 b1 [e7 kd,e7 wd,e7 mo] 31::T)
   refine Gm C (Gr (Av C C) (Gr (Av C C) (Ga C (Ga C (Aq (A0 (L':=[(38,_),(37,_),(36,_),(2,_),(4,_),(5,_),(6,_),(10,_),(17,_),(18,_),(19,_),(20,_),(26,_),(27,_),(144,_),(145,_),(146,_),(205,_),(206,_),(207,_)]) (Aa C (Aa C (Aa C (Aa C (Aa C (Aa C (Aa C (Aa C (Aa C (Aa C (Aa C (Aa C (Aa C (Aa C (Aa C (Aa C (Aa C (Aa C (Aa C (Aa C A9)))))))))))))))))))) (Aj (Gm C (Gm C (Gr (Bj Be C) (Gm C (G.e (Ac c_ C C (ch5 A6 ((Rw.xs.length:Nat):Int) (e_ TL k2))) ?_))))))))))))
   rintro _ _ ⟨_,_,⟨ad45,cp46,rfl,K47,rfl,hK47⟩,rfl,rfl⟩
   refine Fo (J:=vc 4 (.slice ad45 (H7 ((Rw.xs.length:Nat):Int) (e_ TL k2) Wp).length cp46) (H7 ((Rw.xs.length:Nat):Int) (e_ TL k2) Wp)::vc 4 (.slice ad42 (H7 ((Rw.xs.length:Nat):Int) (e_ TL k2) Wp).length cp43) (H7 ((Rw.xs.length:Nat):Int) (e_ TL k2) Wp)::vc 3 (.slice ad41 2 2) (TL)::vc 44 (.slice ad37 Wu.length cp38) (Wu)::vc 44 (.slice ad35 Wu.length cp36) (Wu)::vc 44 (.slice ad33 Wp.length cp34) (Wp)::vc 44 (.slice ad31 Wp.length cp32) (Wp)::e8 dk3 [.slice la ln lc,e7 i40] 125::vc 33 (.slice pa 5 5) (RL)::e8 b14 [e7 kd10,e7 wd11,e7 mo12] 31::e8 b1 [e7 kd,e7 wd,e7 mo] 31::T) hK47 ?_
   show G prog κ _ _ _ _ ([(224,.tuple #[.slice ad45 (H7 ((Rw.xs.length:Nat):Int) (e_ TL k2) Wp).length cp46,e7 (U1 ((Rw.xs.length:Nat):Int) Wp)]),(223,e7 (e_ TL k2)),(222,e7 ((Rw.xs.length:Nat):Int)),(221,.slice Rw.a Rw.xs.length Rw.c),(220,.slice ad31 Wp.length cp32),(38,e7 (U1 ((Rw.xs.length:Nat):Int) Wp)),(37,.slice ad42 (H7 ((Rw.xs.length:Nat):Int) (e_ TL k2) Wp).length cp43),(36,e7 (e_ TL k2)),(2,.slice ea es0.length ec),(4,.slice qa rs0.length qc),(5,e7 nodes),(6,e7 n),(10,.pointer (some ⟨b1,0,none⟩)),(17,.pointer (some ⟨dk3,0,none⟩)),(18,e7 nn),(19,.slice ad6 es8.length cp7),(20,.pointer (some ⟨b14,0,none⟩)),(26,.slice Rw.a Rw.xs.length Rw.c),(27,.slice ad31 Wp.length cp32),(144,.slice pa 5 5),(145,e7 ((5:Nat):Int)),(146,e7 ((k:Int))),(205,.slice ad41 2 2),(206,e7 ((2:Nat):Int)),(207,e7 ((k2:Int)))]:Env) (vc 4 (.slice ad45 (H7 ((Rw.xs.length:Nat):Int) (e_ TL k2) Wp).length cp46) (H7 ((Rw.xs.length:Nat):Int) (e_ TL k2) Wp)::vc 4 (.slice ad42 (H7 ((Rw.xs.length:Nat):Int) (e_ TL k2) Wp).length cp43) (H7 ((Rw.xs.length:Nat):Int) (e_ TL k2) Wp)::vc 3 (.slice ad41 2 2) (TL)::vc 44 (.slice ad37 Wu.length cp38) (Wu)::vc 44 (.slice ad35 Wu.length cp36) (Wu)::vc 44 (.slice ad33 Wp.length cp34) (Wp)::vc 44 (.slice ad31 Wp.length cp32) (Wp)::e8 dk3 [.slice la ln lc,e7 i40] 125::vc 33 (.slice pa 5 5) (RL)::e8 b14 [e7 kd10,e7 wd11,e7 mo12] 31::e8 b1 [e7 kd,e7 wd,e7 mo] 31::T)
   refine Gm C (Gr (Av C C) (Gr (Av C C) (Ga C (Ga C (Aq (A0 (L':=[(40,_),(39,_),(38,_),(37,_),(2,_),(4,_),(5,_),(6,_),(10,_),(17,_),(18,_),(19,_),(20,_),(26,_),(27,_),(144,_),(145,_),(146,_),(205,_),(206,_),(207,_)]) (Aa C (Aa C (Aa C (Aa C (Aa C (Aa C (Aa C (Aa C (Aa C (Aa C (Aa C (Aa C (Aa C (Aa C (Aa C (Aa C (Aa C (Aa C (Aa C (Aa C (Aa C A9))))))))))))))))))))) (Aj (Gm C (Gm C (Gr (Cu C C) (Gm C (Au (d:=230) C (λg230=>?_) (λg230=>?_)))))))))))))
   ·exact absurd rfl g230
   refine e9 (Ad C) (e9 (Ad C) (D0 (B9 C C C) (Ac c_ C C (db9 A6 A6)) ?_))
   rintro _ _ ⟨_,_,⟨rfl,rfl⟩,rfl,rfl⟩
   refine e9 (Fi C) (Gr (Bg C C) (Aq (A0 (L':=[(235,_),(2,_),(4,_),(5,_),(6,_),(10,_),(17,_),(18,_),(19,_),(20,_),(26,_),(27,_),(144,_),(145,_),(146,_),(205,_),(206,_),(207,_)]) (Aa C (Aa C (Aa C (Aa C (Aa C (Aa C (Aa C (Aa C (Aa C (Aa C (Aa C (Aa C (Aa C (Aa C (Aa C (Aa C (Aa C (Aa C A9)))))))))))))))))) (Am C (λc235=>?_) (λc235=>?_)))))
   ·exact absurd rfl c235
   exact A4 (Ap (Al (A0 (S17 2 4 5 6 10 17 18 19 20 26 27 144 145 146 205 206 207 C C C C C C C C C C C C C C C C C) (A1 (Gr (Rad C C) (Gm C (Bl (Bh ((k2+1)) om))))))))
  refine B6 (Ao (Ao (A5 (Al (A0 (S13 2 4 5 6 10 17 18 19 20 26 144 145 146 C C C C C C C C C C C C C) (Aj (Gm C (Gr (Bj Be C) (Gm C (Aq (A0 (S15 239 238 237 2 4 5 6 10 17 18 19 20 144 145 146 C C C C C C C C C C C C C C C) (A3 (B4 (σ:=Nat×Int) (λs=>([(2,.slice ea es0.length ec),(4,.slice qa rs0.length qc),(5,e7 nodes),(6,e7 n),(10,.pointer (some ⟨b1,0,none⟩)),(17,.pointer (some ⟨dk3,0,none⟩)),(18,e7 nn),(19,.slice ad6 es8.length cp7),(20,.pointer (some ⟨b14,0,none⟩)),(144,.slice pa 5 5),(145,e7 ((5:Nat):Int)),(146,e7 ((k:Int))),(237,.slice Rw.a Rw.xs.length Rw.c),(238,e7 ((Rw.xs.length:Nat):Int)),(239,e7 ((s.1:Nat):Int))]:Env)) (λs=>vc 3 (.slice ad41 2 2) (TL)::vc 44 (.slice ad37 Wu.length cp38) (Wu)::vc 44 (.slice ad35 Wu.length cp36) (Wu)::vc 44 (.slice ad33 Wp.length cp34) (Wp)::vc 44 (.slice ad31 Wp.length cp32) (Wp)::e8 dk3 [.slice la ln lc,e7 (s.2)] 125::vc 33 (.slice pa 5 5) (RL)::e8 b14 [e7 kd10,e7 wd11,e7 mo12] 31::e8 b1 [e7 kd,e7 wd,e7 mo] 31::T) (λs=>(s.1<=Rw.xs.length)/\(0<=s.2)) (λs=>Rw.xs.length - s.1) (0,i40) (show ((0:Nat)<=Rw.xs.length)/\(0<=(i40:Int)) from ⟨om,om⟩) (Aa C (Aa C (Aa C (Aa C (Aa C (Aa C (Aa C (Aa C (Aa C (Aa C (Aa C (Aa C (Aa C (Aa C (Aa Co A9))))))))))))))) (show Fit κ _ (vc 3 (.slice ad41 2 2) (TL)::vc 44 (.slice ad37 Wu.length cp38) (Wu)::vc 44 (.slice ad35 Wu.length cp36) (Wu)::vc 44 (.slice ad33 Wp.length cp34) (Wp)::vc 44 (.slice ad31 Wp.length cp32) (Wp)::e8 dk3 [.slice la ln lc,e7 ((i40))] 125::vc 33 (.slice pa 5 5) (RL)::e8 b14 [e7 kd10,e7 wd11,e7 mo12] 31::e8 b1 [e7 kd,e7 wd,e7 mo] 31::T) from Bi) ?_)))))))))))))
  rintro ⟨k3,iq3⟩ hp
  dsimp only at hp ⊢
  obtain ⟨hk3,hiq3⟩:=hp
  refine Aj (Gr (Bp C C) (Aq (A0 (S16 240 2 4 5 6 10 17 18 19 20 144 145 146 237 238 239 C C C C C C C C C C C C C C C C) (Ax (Am C (λc240=>?_) (λc240=>?_))))))
  ·refine A4 (Al (A0 (S15 2 4 5 6 10 17 18 19 20 144 145 146 237 238 239 C C C C C C C C C C C C C C C) (Ax (A3 (Aj (Gr (A2 (α:=AlV) (xs:=Rw.xs) Be P1 C C (Bc hrw.sl) om olp) (Gr (Cd (α:=AlV) (xs:=Rw.xs) P1 C (Bc hrw.sl) om olp) (Ge1 (Ah P1 C) λb48=>Ge0 (Dp P1) ?_))))))))
   have hbx:=hrw.fx4 _ (B3 (xs:=Rw.xs) (i:=(k3:Int)) om om)
   generalize hBx:e_ Rw.xs k3=Bx at hbx ⊢
   refine Aq (A0 (S16 42 2 4 5 6 10 17 18 19 20 144 145 146 237 238 239 C C C C C C C C C C C C C C C C) (Aj (Gm C (G.e (Ac c_ C C (dk2 (by repeat (first|exact AtF.head _ _|apply AtF.tail)) (λ_=>Bs hTl Af) om  om)) ?_))))
   rintro _ _ ⟨_,_,⟨⟨nd49,ad50,cp51,es52,i53⟩,⟨⟨rfl,hges52⟩,hi53⟩,rfl⟩,rfl,rfl⟩
   show G prog κ _ _ _ _ ([(244,.agg #[e7 nd49,.slice ad50 es52.length cp51]),(243,.pointer (some ⟨dk3,0,none⟩)),(42,.pointer (some ⟨b48,0,none⟩)),(2,.slice ea es0.length ec),(4,.slice qa rs0.length qc),(5,e7 nodes),(6,e7 n),(10,.pointer (some ⟨b1,0,none⟩)),(17,.pointer (some ⟨dk3,0,none⟩)),(18,e7 nn),(19,.slice ad6 es8.length cp7),(20,.pointer (some ⟨b14,0,none⟩)),(144,.slice pa 5 5),(145,e7 ((5:Nat):Int)),(146,e7 ((k:Int))),(237,.slice Rw.a Rw.xs.length Rw.c),(238,e7 ((Rw.xs.length:Nat):Int)),(239,e7 ((k3:Int)))]:Env) (vc 135 (.slice ad50 es52.length cp51) (es52)::e8 b48 [e7 (Bx.kd),e7 (Bx.no),e7 (Bx.lv),.slice Bx.a Bx.xs.length Bx.c,e7 (Bx.num),e7 (Bx.den)] 42::vc 3 (.slice ad41 2 2) (TL)::vc 44 (.slice ad37 Wu.length cp38) (Wu)::vc 44 (.slice ad35 Wu.length cp36) (Wu)::vc 44 (.slice ad33 Wp.length cp34) (Wp)::vc 44 (.slice ad31 Wp.length cp32) (Wp)::e8 dk3 [.slice la ln lc,e7 i53] 125::vc 33 (.slice pa 5 5) (RL)::e8 b14 [e7 kd10,e7 wd11,e7 mo12] 31::e8 b1 [e7 kd,e7 wd,e7 mo] 31::T)
   have hi53:0<=i53:=hi53
   dsimp only at hges52
   refine Ge1 (Ah H2 C) λb54=>Ge0 (Ba H2) ?_
   have hg7:=hges52.1
   refine Aq (A0 (S17 43 42 2 4 5 6 10 17 18 19 20 144 145 146 237 238 239 C C C C C C C C C C C C C C C C C) (Aj (Gl2 H2 ?_)))
   refine Gl6 P1 ?_
   refine G.e (Ac c_ C C (cj7 (nd:=nd49) (ea:=ad50) (ec:=cp51) (es:=es52) (x:=Bx) A6 (Bc hbx) (Cb hTT Af))) ?_
   rintro _ _ ⟨_,_,⟨rfl,rfl⟩,rfl,rfl⟩
   refine Gm C (Gr (Av C C) (Gr (Av C C) (Ga C (Ga C (Aq (A0 (L':=[(45,_),(44,_),(43,_),(42,_),(2,_),(4,_),(5,_),(6,_),(10,_),(17,_),(18,_),(19,_),(20,_),(144,_),(145,_),(146,_),(237,_),(238,_),(239,_)]) (Aa C (Aa C (Aa C (Aa C (Aa C (Aa C (Aa C (Aa C (Aa C (Aa C (Aa C (Aa C (Aa C (Aa C (Aa C (Aa C (Aa C (Aa C (Aa C A9))))))))))))))))))) (Aj (Gl2 H2 ?_))))))))
   refine Gl6 P1 ?_
   refine Gc0 (Ac c_ C C (cj6 (nd:=nd49) (ea:=ad50) (ec:=cp51) (es:=es52) (x:=Bx) A6 (Bc hbx) om)) ?_
   refine Gm C (Gr (Av C C) (Gr (Av C C) (Ga C (Ga C (Aq (A0 (L':=[(47,_),(46,_),(45,_),(44,_),(42,_),(2,_),(4,_),(5,_),(6,_),(10,_),(17,_),(18,_),(19,_),(20,_),(144,_),(145,_),(146,_),(237,_),(238,_),(239,_)]) (Aa C (Aa C (Aa C (Aa C (Aa C (Aa C (Aa C (Aa C (Aa C (Aa C (Aa C (Aa C (Aa C (Aa C (Aa C (Aa C (Aa C (Aa C (Aa C (Aa C A9)))))))))))))))))))) (Ax (A8 mixed (Cf (e8 b54 [e7 nd49,.slice ad50 es52.length cp51] 48::vc 135 (.slice ad50 es52.length cp51) (es52)::e8 b48 [e7 (Bx.kd),e7 (Bx.no),e7 (Bx.lv),.slice Bx.a Bx.xs.length Bx.c,e7 (Bx.num),e7 (Bx.den)] 42::vc 3 (.slice ad41 2 2) (TL)::vc 44 (.slice ad37 Wu.length cp38) (Wu)::vc 44 (.slice ad35 Wu.length cp36) (Wu)::vc 44 (.slice ad33 Wp.length cp34) (Wp)::vc 44 (.slice ad31 Wp.length cp32) (Wp)::vc 33 (.slice pa 5 5) (RL)::e8 b14 [e7 kd10,e7 wd11,e7 mo12] 31::e8 b1 [e7 kd,e7 wd,e7 mo] 31::T) 10 (Dr 0 C (Ad C) (Dr 1 C (B1 (cells:=[_,_]) H2 E8 gq1 C C) (Dr 3 C (Ch (vs:=[_,_,_,_,_,_]) P1) ?_))))))))))))
   refine Ds1 2 (Se C (Ac c_ C C (dj7 (by repeat (first|exact AtF.head _ _|apply AtF.tail)) (λ_=>Bs hTl Af) om  )) ?_)
   rintro _ _ ⟨_,_,⟨⟨nd55,ad56,cp57,i58⟩,⟨rfl,hi58⟩,rfl⟩,rfl,rfl⟩
   refine ⟨Ar,?_⟩
   show D prog κ _ _ _ _ _ _ _ ([(260,.agg #[e7 nd55,.slice ad56 ([]:List Pt).length cp57]),(261,.agg #[e7 (Bx.kd),e7 (Bx.no),e7 (Bx.lv),.slice Bx.a Bx.xs.length Bx.c,e7 (Bx.num),e7 (Bx.den)]),(259,.agg #[e7 5,.slice none 0 0]),(258,.pointer (some ⟨dk3,0,none⟩)),(47,e7 (aj6 nd49 es52 Bx)),(46,.bool ((bm6 nd49 es52 Bx))),(45,e7 (aj6 nd49 es52 Bx)),(44,.bool ((bm6 nd49 es52 Bx))),(42,.pointer (some ⟨b48,0,none⟩)),(2,.slice ea es0.length ec),(4,.slice qa rs0.length qc),(5,e7 nodes),(6,e7 n),(10,.pointer (some ⟨b1,0,none⟩)),(17,.pointer (some ⟨dk3,0,none⟩)),(18,e7 nn),(19,.slice ad6 es8.length cp7),(20,.pointer (some ⟨b14,0,none⟩)),(144,.slice pa 5 5),(145,e7 ((5:Nat):Int)),(146,e7 ((k:Int))),(237,.slice Rw.a Rw.xs.length Rw.c),(238,e7 ((Rw.xs.length:Nat):Int)),(239,e7 ((k3:Int)))]:Env) (vc 135 (.slice ad56 ([]:List Pt).length cp57) (([]:List Pt))::e8 b54 [e7 nd49,.slice ad50 es52.length cp51] 48::vc 135 (.slice ad50 es52.length cp51) (es52)::e8 b48 [e7 (Bx.kd),e7 (Bx.no),e7 (Bx.lv),.slice Bx.a Bx.xs.length Bx.c,e7 (Bx.num),e7 (Bx.den)] 42::vc 3 (.slice ad41 2 2) (TL)::vc 44 (.slice ad37 Wu.length cp38) (Wu)::vc 44 (.slice ad35 Wu.length cp36) (Wu)::vc 44 (.slice ad33 Wp.length cp34) (Wp)::vc 44 (.slice ad31 Wp.length cp32) (Wp)::e8 dk3 [.slice la ln lc,e7 i58] 125::vc 33 (.slice pa 5 5) (RL)::e8 b14 [e7 kd10,e7 wd11,e7 mo12] 31::e8 b1 [e7 kd,e7 wd,e7 mo] 31::T)
   have hi58:0<=i58:=hi58
   refine Ds1 4 (Se C (Ac c_ C C (cj7 (nd:=nd55) (ea:=ad56) (ec:=cp57) (es:=([]:List Pt)) (x:=Bx) A6 (Bc hbx) (Cb hTT Af))) ?_)
   rintro _ _ ⟨_,_,⟨rfl,rfl⟩,rfl,rfl⟩
   refine ⟨Ar,?_⟩
   refine Dr 5 C (Ad C) (Dr 6 C (Av C C) (Dr 7 C (Av C C) (Dr 8 C (Bo C) (Dr 9 C (Bo C) (Dz (Al (A0 (L':=[(49,_),(48,_),(47,_),(46,_),(45,_),(44,_),(42,_),(2,_),(4,_),(5,_),(6,_),(10,_),(17,_),(18,_),(19,_),(20,_),(144,_),(145,_),(146,_),(237,_),(238,_),(239,_)]) (Aa C (Aa C (Aa C (Aa C (Aa C (Aa C (Aa C (Aa C (Aa C (Aa C (Aa C (Aa C (Aa C (Aa C (Aa C (Aa C (Aa C (Aa C (Aa C (Aa C (Aa C (Aa C A9)))))))))))))))))))))) (Aj (Gr (B1 (cells:=[_,_]) H2 E8 gq1 C C) (Gl6 P1 ?_))))))))))
   refine Gc0 (Ac c_ C C (cj6 (nd:=5) (ea:=none) (ec:=0) (es:=[]) (x:=Bx) (Sl.nil _) (Bc hbx) om)) ?_
   refine Gm C (Gr (Av C C) (Gr (Av C C) (Ga C (Ga C (Aq (A0 (L':=[(51,_),(50,_),(49,_),(48,_),(47,_),(46,_),(45,_),(44,_),(42,_),(2,_),(4,_),(5,_),(6,_),(10,_),(17,_),(18,_),(19,_),(20,_),(144,_),(145,_),(146,_),(237,_),(238,_),(239,_)]) (Aa C (Aa C (Aa C (Aa C (Aa C (Aa C (Aa C (Aa C (Aa C (Aa C (Aa C (Aa C (Aa C (Aa C (Aa C (Aa C (Aa C (Aa C (Aa C (Aa C (Aa C (Aa C (Aa C (Aa C A9)))))))))))))))))))))))) (Ax (A8 mixed (Cf (vc 135 (.slice ad56 ([]:List Pt).length cp57) (([]:List Pt))::e8 b54 [e7 nd49,.slice ad50 es52.length cp51] 48::vc 135 (.slice ad50 es52.length cp51) (es52)::e8 b48 [e7 (Bx.kd),e7 (Bx.no),e7 (Bx.lv),.slice Bx.a Bx.xs.length Bx.c,e7 (Bx.num),e7 (Bx.den)] 42::vc 3 (.slice ad41 2 2) (TL)::vc 44 (.slice ad37 Wu.length cp38) (Wu)::vc 44 (.slice ad35 Wu.length cp36) (Wu)::vc 44 (.slice ad33 Wp.length cp34) (Wp)::vc 44 (.slice ad31 Wp.length cp32) (Wp)::e8 dk3 [.slice la ln lc,e7 i58] 125::vc 33 (.slice pa 5 5) (RL)::e8 b14 [e7 kd10,e7 wd11,e7 mo12] 31::e8 b1 [e7 kd,e7 wd,e7 mo] 31::T) 36 (Dr 0 C (Ad C) (Dr 1 C (Ad C) (Dr 2 C (Cu C C) (Dr 3 C (Ad C) (Cw (d:=274) C (λg274=>?_) (λg274=>?_)))))))))))))))
   ·exact absurd rfl g274
   refine Dro 4 C (Ad C) (Dro 5 C (Ad C) (Dro 6 C (Fj Ct C C) (Dr 7 C (Bg C C) (Dr 8 C (Ad C) (Cw (d:=279) C (λg279=>?_) (λg279=>?_))))))
   ·exact absurd rfl g279
   refine Dro 9 C (Ch (vs:=[_,_,_,_,_,_]) P1) ?_
   refine Dro 10 C (Ad C) (Dro 12 C (Ch (vs:=[_,_,_,_,_,_]) P1) ?_)
   refine Dro 13 C (Ad C) (Ds1 11 (Se C (Ac c_ C C (ao2 (nd:=nodes) (K:=Bx.kd) (no:=Bx.no) (lv:=Bx.lv) (S:=Bx.xs) (num:=Bx.num) (den:=Bx.den) (Bc hbx))) ?_))
   rintro _ _ ⟨_,_,⟨rfl,rfl⟩,rfl,rfl⟩
   refine ⟨Ar,?_⟩
   refine Ds1 14 (Sc0 C (Ac c_ C C (ao3 (nd:=nodes) (K:=Bx.kd) (no:=Bx.no) (lv:=Bx.lv) (S:=Bx.xs) (num:=Bx.num) (den:=Bx.den) (Bc hbx))) ?_)
   refine Dro 15 C (Cu C C) (Dr 16 C (Bg C C) (Dr 17 C (Ad C) (Cw (d:=288) C (λg288=>?_) (λg288=>?_))))
   ·exact absurd rfl g288
   refine Dro 18 C (Ch (vs:=[_,_,_,_,_,_]) P1) ?_
   refine Dro 19 C (Ad C) (Dro 21 C (Ch (vs:=[_,_,_,_,_,_]) P1) ?_)
   refine Dro 22 C (Ad C) (Ds1 20 (Se C (Ac c_ C C (ao2 (nd:=nn) (K:=Bx.kd) (no:=Bx.no) (lv:=Bx.lv) (S:=Bx.xs) (num:=Bx.num) (den:=Bx.den) (Bc hbx))) ?_))
   rintro _ _ ⟨_,_,⟨rfl,rfl⟩,rfl,rfl⟩
   refine ⟨Ar,?_⟩
   refine Ds1 23 (Sc0 C (Ac c_ C C (ao3 (nd:=nn) (K:=Bx.kd) (no:=Bx.no) (lv:=Bx.lv) (S:=Bx.xs) (num:=Bx.num) (den:=Bx.den) (Bc hbx))) ?_)
   refine Dro 24 C (Cu C C) (Dr 25 C (Bg C C) (Dr 26 C (Ad C) (Cw (d:=297) C (λg297=>?_) (λg297=>?_))))
   ·exact absurd rfl g297
   refine Dro 27 C (Ad C) (Dro 28 C (Ad C) (Dro 29 C (B7 C C) (Dro 30 C (Ad C) (Cw (d:=301) C (λg301=>?_) (λg301=>?_)))))
   ·refine Dro 31 C (Ad C) (Dro 32 C (Ad C) (Dro 33 C (Fj Ct C C) (Dro 34 C (Br C C) (Dr 35 C (Bg C C) (Dz (Al (A0 (S16 306 2 4 5 6 10 17 18 19 20 144 145 146 237 238 239 C C C C C C C C C C C C C C C C) (Am C (λc306=>?_) (λc306=>?_)))))))))
    ·exact absurd (co6 g301) c306
    exact A4 (Ap (Al (A0 (S15 2 4 5 6 10 17 18 19 20 144 145 146 237 238 239 C C C C C C C C C C C C C C C) (A1 (Gr (Rad C C) (Gm C (Bl (Bh ((k3+1),(i58)) (by dsimp only;exact ⟨om,om⟩)))))))))
   exact Dpo 31 C (Dpo 32 C (Dpo 33 C (Dro 34 C (Bg C C) (Dr 35 C (Bg C C) (Dz (Al (A0 (S16 306 2 4 5 6 10 17 18 19 20 144 145 146 237 238 239 C C C C C C C C C C C C C C C C) (W.no C (A4 (Ap (Al (A0 (S15 2 4 5 6 10 17 18 19 20 144 145 146 237 238 239 C C C C C C C C C C C C C C C) (A1 (Gr (Rad C C) (Gm C (Bl (Bh ((k3+1),(i58)) (by dsimp only;exact ⟨om,om⟩))))))))))))))))))
  exact B6 (Ao (Ao (A5 (Ap (Al (A0 (S12 2 4 5 6 10 17 18 19 20 144 145 146 C C C C C C C C C C C C) (A1 (Gr (Rad C C) (Gm C (Bl (Bh ((k+1),(iq3)) (by dsimp only;exact ⟨om,om⟩))))))))))))
 refine B6 (Ao (Ao (A5 (Al (Ax (Aj (Gm C (Gm C (Gr (Er (cells:=[_,_]) ar6 B0 ef C C) (Gm C (G.e (Ac c_ C C (F5 (by repeat (first|exact AtF.head _ _|apply AtF.tail)) (Bc hTl) om om)) ?_)))))))))))
 rintro _ _ ⟨_,_,⟨x59,i60,rfl,hx59,hi60,rfl⟩,rfl,rfl⟩
 show G prog κ _ _ _ _ ([(313,e7 x59),(312,.pointer (some ⟨dk3,0,none⟩)),(311,.agg #[e7 n,e7 nodes]),(310,e7 nodes),(309,e7 n),(147,.bool (decide ((k:Int)<((5:Nat):Int)))),(2,.slice ea es0.length ec),(4,.slice qa rs0.length qc),(5,e7 nodes),(6,e7 n),(10,.pointer (some ⟨b1,0,none⟩)),(17,.pointer (some ⟨dk3,0,none⟩)),(18,e7 nn),(19,.slice ad6 es8.length cp7),(20,.pointer (some ⟨b14,0,none⟩)),(144,.slice pa 5 5),(145,e7 ((5:Nat):Int)),(146,e7 ((k:Int)))]:Env) (e8 dk3 [.slice la ln lc,e7 i60] 125::vc 33 (.slice pa 5 5) (RL)::e8 b14 [e7 kd10,e7 wd11,e7 mo12] 31::e8 b1 [e7 kd,e7 wd,e7 mo] 31::T)
 refine Gm C (Gr (Er (cells:=[_,_]) ar6 B0 ef C C) (Ge1 (Bt (α:=Pt) (cs:=[_,_,_,_]) (xs:=[⟨n,nodes⟩,⟨x59,n⟩]) Cp ar6 C C dc dc C C C C) λad61=>?_))
 have hPL:(([⟨n,nodes⟩,⟨x59,n⟩]:List Pt)).length=2:=rfl
 generalize ([⟨n,nodes⟩,⟨x59,n⟩]:List Pt)=PL at hPL ⊢
 refine Gr (Bj Cp C) (Gm C (Aq (A0 (S4 318 317 316 4 C C C C) (A3 (B4 (σ:=Nat) (λs=>([(4,.slice qa rs0.length qc),(316,.slice ad61 2 2),(317,e7 ((2:Nat):Int)),(318,e7 ((s:Nat):Int))]:Env)) (λs=>vc 64 (.slice ad61 2 2) (PL)::e8 dk3 [.slice la ln lc,e7 i60] 125::vc 33 (.slice pa 5 5) (RL)::e8 b14 [e7 kd10,e7 wd11,e7 mo12] 31::e8 b1 [e7 kd,e7 wd,e7 mo] 31::T) (λs=>(s<=2)) (λs=>2 - s) 0 (show ((0:Nat)<=2) from om) (Aa C (Aa C (Aa C (Aa Co A9)))) (show Fit κ _ (vc 64 (.slice ad61 2 2) (PL)::e8 dk3 [.slice la ln lc,e7 i60] 125::vc 33 (.slice pa 5 5) (RL)::e8 b14 [e7 kd10,e7 wd11,e7 mo12] 31::e8 b1 [e7 kd,e7 wd,e7 mo] 31::T) from Bi) ?_)))))
 rintro k4 hp
 have hk4:=hp
 refine Aj (Gr (Bp C C) (Aq (Ax (Am C (λc319=>?_) (λc319=>?_)))))
 ·refine A4 (Al (Ax (A3 (Aj (Gr (A2 (α:=Pt) (xs:=PL) Cp ar6 C C A6 om olp) (Gr (Cd (α:=Pt) (xs:=PL) ar6 C A6 om olp) (Ge1 (Ah ar6 C) λb62=>Ge0 (Ba ar6) ?_)))))))
  refine Aq (Aj (Gm C (Gr (Cc B0 ty2 C C om om) (Gl ef ?_))))
  refine Gr (Cc B0 ty2 C C om om) (Gl ef ?_)
  refine G.e (Ac c_ C C (ch6 (Bc hTq) ((e_ PL k4).u) ((e_ PL k4).v))) ?_
  rintro _ _ ⟨_,_,⟨ad63,cp64,rfl,K65,rfl,hK65⟩,rfl,rfl⟩
  refine Fo (J:=vc 4 (.slice ad63 (H7 ((e_ PL k4).u) ((e_ PL k4).v) rs0).length cp64) (H7 ((e_ PL k4).u) ((e_ PL k4).v) rs0)::e8 b62 [e7 ((e_ PL k4).u),e7 ((e_ PL k4).v)] 64::vc 64 (.slice ad61 2 2) (PL)::e8 dk3 [.slice la ln lc,e7 i60] 125::vc 33 (.slice pa 5 5) (RL)::e8 b14 [e7 kd10,e7 wd11,e7 mo12] 31::e8 b1 [e7 kd,e7 wd,e7 mo] 31::T) hK65 ?_
  show G prog κ _ _ _ _ ([(328,.tuple #[.slice ad63 (H7 ((e_ PL k4).u) ((e_ PL k4).v) rs0).length cp64,e7 (U1 ((e_ PL k4).u) rs0)]),(327,e7 ((e_ PL k4).v)),(326,.pointer (some ⟨b62,1,none⟩)),(325,e7 ((e_ PL k4).u)),(324,.pointer (some ⟨b62,0,none⟩)),(323,.slice qa rs0.length qc),(53,.pointer (some ⟨b62,0,none⟩)),(321,.agg #[e7 ((e_ PL k4).u),e7 ((e_ PL k4).v)]),(320,s6 (.slice ad61 2 2) (((k4:Int)).toNat*Enc.sz Pt)),(319,.bool (decide ((k4:Int)<((2:Nat):Int)))),(4,.slice qa rs0.length qc),(316,.slice ad61 2 2),(317,e7 ((2:Nat):Int)),(318,e7 ((k4:Int)))]:Env) (vc 4 (.slice ad63 (H7 ((e_ PL k4).u) ((e_ PL k4).v) rs0).length cp64) (H7 ((e_ PL k4).u) ((e_ PL k4).v) rs0)::e8 b62 [e7 ((e_ PL k4).u),e7 ((e_ PL k4).v)] 64::vc 64 (.slice ad61 2 2) (PL)::e8 dk3 [.slice la ln lc,e7 i60] 125::vc 33 (.slice pa 5 5) (RL)::e8 b14 [e7 kd10,e7 wd11,e7 mo12] 31::e8 b1 [e7 kd,e7 wd,e7 mo] 31::T)
  refine Gm C (Gr (Av C C) (Gr (Av C C) (Ga C (Ga C (Aq (A0 (S7 55 54 53 4 316 317 318 C C C C C C C) (Aj (Gm C (Gr (Cc B0 ty2 C C om om) (Gl ef ?_))))))))))
  refine Gr (Cc B0 ty2 C C om om) (Gl ef ?_)
  refine G.e (Ac c_ C C (ch5 (Bc hTq) ((e_ PL k4).u) ((e_ PL k4).v))) ?_
  rintro _ _ ⟨_,_,⟨ad66,cp67,rfl,K68,rfl,hK68⟩,rfl,rfl⟩
  refine Fo (J:=vc 4 (.slice ad66 (H7 ((e_ PL k4).u) ((e_ PL k4).v) rs0).length cp67) (H7 ((e_ PL k4).u) ((e_ PL k4).v) rs0)::vc 4 (.slice ad63 (H7 ((e_ PL k4).u) ((e_ PL k4).v) rs0).length cp64) (H7 ((e_ PL k4).u) ((e_ PL k4).v) rs0)::e8 b62 [e7 ((e_ PL k4).u),e7 ((e_ PL k4).v)] 64::vc 64 (.slice ad61 2 2) (PL)::e8 dk3 [.slice la ln lc,e7 i60] 125::vc 33 (.slice pa 5 5) (RL)::e8 b14 [e7 kd10,e7 wd11,e7 mo12] 31::e8 b1 [e7 kd,e7 wd,e7 mo] 31::T) hK68 ?_
  show G prog κ _ _ _ _ ([(337,.tuple #[.slice ad66 (H7 ((e_ PL k4).u) ((e_ PL k4).v) rs0).length cp67,e7 (U1 ((e_ PL k4).u) rs0)]),(336,e7 ((e_ PL k4).v)),(335,.pointer (some ⟨b62,1,none⟩)),(334,e7 ((e_ PL k4).u)),(333,.pointer (some ⟨b62,0,none⟩)),(332,.slice qa rs0.length qc),(55,e7 (U1 ((e_ PL k4).u) rs0)),(54,.slice ad63 (H7 ((e_ PL k4).u) ((e_ PL k4).v) rs0).length cp64),(53,.pointer (some ⟨b62,0,none⟩)),(4,.slice qa rs0.length qc),(316,.slice ad61 2 2),(317,e7 ((2:Nat):Int)),(318,e7 ((k4:Int)))]:Env) (vc 4 (.slice ad66 (H7 ((e_ PL k4).u) ((e_ PL k4).v) rs0).length cp67) (H7 ((e_ PL k4).u) ((e_ PL k4).v) rs0)::vc 4 (.slice ad63 (H7 ((e_ PL k4).u) ((e_ PL k4).v) rs0).length cp64) (H7 ((e_ PL k4).u) ((e_ PL k4).v) rs0)::e8 b62 [e7 ((e_ PL k4).u),e7 ((e_ PL k4).v)] 64::vc 64 (.slice ad61 2 2) (PL)::e8 dk3 [.slice la ln lc,e7 i60] 125::vc 33 (.slice pa 5 5) (RL)::e8 b14 [e7 kd10,e7 wd11,e7 mo12] 31::e8 b1 [e7 kd,e7 wd,e7 mo] 31::T)
  refine Gm C (Gr (Av C C) (Gr (Av C C) (Ga C (Ga C (Aq (A0 (S8 57 56 55 54 4 316 317 318 C C C C C C C C) (Aj (Gm C (Gm C (Gr (Cu C C) (Gm C (Au (d:=343) C (λg343=>?_) (λg343=>?_)))))))))))))
  ·exact absurd rfl g343
  refine e9 (Ad C) (e9 (Ad C) (D0 (B9 C C C) (Ac c_ C C (db9 A6 A6)) ?_))
  rintro _ _ ⟨_,_,⟨rfl,rfl⟩,rfl,rfl⟩
  refine e9 (Fi C) (Gr (Bg C C) (Aq (A0 (S5 348 4 316 317 318 C C C C C) (Am C (λc348=>?_) (λc348=>?_)))))
  ·exact absurd rfl c348
  exact A4 (Ap (Al (A1 (Gr (Rad C C) (Gm C (Bl (Bh ((k4+1)) om)))))))
 refine B6 (Ao (Ao (A5 (Al (Aj (G.e (Ac c_ C C (ar2 (Cb hTT Af))) ?_))))))
 rintro _ _ ⟨_,_,⟨rfl,rfl⟩,rfl,rfl⟩
 exact Ga C (Aq (Bq (Ak C C I (Bz (show Fit κ _ T from Af) hTI) ⟨rfl,rfl⟩)))
end Go.Sl
