/- A part of the proofs of statements of this seat: contracts of functions, and the plain laws that they lean on. No conditions. -/
import Derived.Test.YtoagcglbkeomgaaGreatDoorQ24
set_option linter.unusedVariables false
set_option linter.unusedSimpArgs false
set_option linter.unusedSectionVars false
open Go.Proofs.Tryz (prog)
set_option maxHeartbeats 4000000
namespace Go.Sl
open Go.Proofs
set_option maxRecDepth 4000
variable{κ:Ctx}{I T:List Item}
section
variable {nd kd wd mo bd:Int}{k:EnS}{e:Ev}
theorem feed_evs(h:EnOk nd kd wd mo bd k)(he:FitOk nd e)(ht:k.b.mr<e.tm):(k.b.out bd e).Pairwise (λa b=>a.tm<=b.tm)/\∀x∈k.b.out bd e,FitOk nd x/\k.tm<=x.tm:=by
 obtain ⟨h1,h2⟩:=h.buf.out (e:=e) ht
 refine ⟨h2,λx Z=>?_⟩
 have M:FitOk nd x:=by
  rcases mem_push.1 (mem_upTo.1 Z).1 with rfl|h4
  ·exact he
  exact h.fit x h4
 have h4:=h1 x Z
 have h5:=h.tm
 have h6:=M.tm
 exact ⟨M,by omega⟩
theorem flush_evs(h:EnOk nd kd wd mo bd k):k.b.ws.Pairwise (λa b=>a.tm<=b.tm)/\∀x∈k.b.ws,FitOk nd x/\k.tm<=x.tm:=by
 refine ⟨h.buf.asc,λx Z=>?_⟩
 have M:=h.fit x Z
 have h4:=h.buf.rng x Z
 have h5:=h.tm
 have h6:=M.tm
 exact ⟨M,by omega⟩
theorem out_len(s:BfS)(bd:Int)(e:Ev):(s.out bd e).length<=s.ws.length+1:=by
 unfold BfS.out upTo
 exact Nat.le_trans (List.length_filter_le _ _)<|by rw [push_len];exact Nat.le_refl _
theorem push_wlen(s:BfS)(bd:Int)(e:Ev):(s.push bd e).ws.length<=s.ws.length+1:=by
 unfold BfS.push beyond
 exact Nat.le_trans (List.length_filter_le _ _)<|by rw [push_len];exact Nat.le_refl _
end
theorem Feed_ok{nd kd wd mo bd:Int}{k:EnS}{v:KpV}(hH:Has I T)(hF:KpF κ T nd k v)(hK:EnOk nd kd wd mo bd k)(ap:k.b.ws.length<=4000){xe:Ev}(hx:FitOk nd xe)(ht:k.b.mr<xe.tm)(hT:TabRd κ I 0 tzCells):eu prog κ 17 [.agg #[e7 kd,e7 wd,e7 mo,e7 bd,e7 (k.b.lt),e7 (k.b.mr),.slice v.w.a k.b.ws.length v.w.c,e7 nd,.slice v.l.a k.S.length v.l.c,e7 nd,.slice v.p.e1.a (edgesK k.S).length v.p.e1.c,.slice v.p.n1.a (coreN nd (edgesK k.S)).length v.p.n1.c,e7 nd,.slice v.p.e2.a (edgesK k.S).length v.p.e2.c,.slice v.p.n2.a (trussG nd (edgesK k.S)).length v.p.n2.c,e7 nd,.slice v.p.e3.a (edgesK k.S).length v.p.e3.c,e7 (triS nd (edgesK k.S) / 3),.slice v.p.n3.a (triL nd (edgesK k.S)).length v.p.n3.c,e7 nd,.slice v.p.e4.a (edgesK k.S).length v.p.e4.c,e7 (wedgeC nd (edgesK k.S)),e7 (quadC nd (edgesK k.S)),.slice v.p.n4.a (quadL nd (edgesK k.S)).length v.p.n4.c,e7 (k.tm)],.agg #[e7 (xe.kd),e7 (xe.tm),e7 (xe.u),e7 (xe.v),e7 (xe.w),e7 (xe.lb),e7 (xe.sg)]] I (λr J=>∃(v':KpV) (Y:List Item) (a:Option Addr) (c:Nat),r = .tuple #[.agg #[e7 kd,e7 wd,e7 mo,e7 bd,e7 ((k.feed kd wd mo bd xe).b.lt),e7 ((k.feed kd wd mo bd xe).b.mr),.slice v'.w.a (k.feed kd wd mo bd xe).b.ws.length v'.w.c,e7 nd,.slice v'.l.a ((k.feed kd wd mo bd xe).S).length v'.l.c,e7 nd,.slice v'.p.e1.a (edgesK ((k.feed kd wd mo bd xe).S)).length v'.p.e1.c,.slice v'.p.n1.a (coreN nd (edgesK ((k.feed kd wd mo bd xe).S))).length v'.p.n1.c,e7 nd,.slice v'.p.e2.a (edgesK ((k.feed kd wd mo bd xe).S)).length v'.p.e2.c,.slice v'.p.n2.a (trussG nd (edgesK ((k.feed kd wd mo bd xe).S))).length v'.p.n2.c,e7 nd,.slice v'.p.e3.a (edgesK ((k.feed kd wd mo bd xe).S)).length v'.p.e3.c,e7 (triS nd (edgesK ((k.feed kd wd mo bd xe).S)) / 3),.slice v'.p.n3.a (triL nd (edgesK ((k.feed kd wd mo bd xe).S))).length v'.p.n3.c,e7 nd,.slice v'.p.e4.a (edgesK ((k.feed kd wd mo bd xe).S)).length v'.p.e4.c,e7 (wedgeC nd (edgesK ((k.feed kd wd mo bd xe).S))),e7 (quadC nd (edgesK ((k.feed kd wd mo bd xe).S))),.slice v'.p.n4.a (quadL nd (edgesK ((k.feed kd wd mo bd xe).S))).length v'.p.n4.c,e7 ((k.feed kd wd mo bd xe).tm)],.slice a ((k.fout kd wd mo bd xe)).length c,e7 0]/\KpF κ (Y++T) nd (k.feed kd wd mo bd xe) v'/\Sl κ (Y++T) (.slice a ((k.fout kd wd mo bd xe)).length c) (k.fout kd wd mo bd xe)/\J=Y++I):=by
 have ao:=feed_evs hK hx ht
 refine Ce2 Tryz.func17 C C ?_
 refine Af<|Ge1 (Bc (cs:=[_,_,_,_,_,_,_,_,_,_,_,_,_,_,_,_,_,_,_,_,_,_,_,_,_]) C C C) λb1=>Ge1 (Bc (cs:=[_,_,_,_,_,_,_]) C C C) λb2=>Ge1 (A2 ty47 C) λb3=>Ga C<|Ga C<|Ad<|Ap<|Af<|Gr (A5 (vs:=[_,_,_,_,_,_,_,_,_,_,_,_,_,_,_,_,_,_,_,_,_,_,_,_,_]) ty47) ?_
 refine Gc0 (Aj c_ C C<|KValid_ok (k:=k) (v:=v) (KpF.fit hF<|Ce (κ:=κ)<|by repeat (first|exact hH|exact Bu _|apply Bt|apply Ci|apply B0)) hK om<|Bg hT Av) ?_
 refine Gr (Cr C)<|Ad<|Dw C<|Aw<|Ah<|Ap<|Af<|Gl7 ty54 ?_
 refine Gc0 (Aj c_ C C<|CheckE_ok xe) ?_
 refine Ga C<|Ad<|Af<|Gm C<|Gr (Bn C C)<|Ad<|Am (S5 18 7 4 3 2 C C C C C)<|A8 C (λad=>?_)<|λad=>?_
 ·exact absurd hx.chk ad
 refine Aw<|Ah<|Ap<|Af<|Gr (A5 (vs:=[_,_,_,_,_,_,_,_,_,_,_,_,_,_,_,_,_,_,_,_,_,_,_,_,_]) ty47) ?_
 refine Gl7 ty54 ?_
 refine Gc0 (Aj c_ C C<|NodeK_ok (nd:=nd) (e:=xe) hx) ?_
 refine Gr (Cr C)<|Ad<|Dw C<|Aw<|Ah<|Af<|Gf fld47_1 C<|Gl4 ty32 ?_
 refine Gl7 ty54 ?_
 refine G.e (Aj c_ C C<|BPush_ok (T:=T) (bf:=k.b) (e:=xe) (by repeat (first|exact hH|exact Bu _|apply Bt|apply Ci|apply B0)) hF.w hK.buf om hx.chk ht hx.tm om) ?_
 rintro _ _ ⟨_,_,⟨ae,ah,ar,aq,Y4,rfl,ak,an,rfl⟩,rfl,rfl⟩
 refine D9 (J:=e8 b3 [e7 0,e7 0,e7 0,e7 0,e7 0,e7 0,.slice none 0 0,e7 0,.slice none 0 0,e7 0,.slice none 0 0,.slice none 0 0,e7 0,.slice none 0 0,.slice none 0 0,e7 0,.slice none 0 0,e7 0,.slice none 0 0,e7 0,.slice none 0 0,e7 0,e7 0,.slice none 0 0,e7 0] 47::e8 b2 [e7 (xe.kd),e7<|xe.tm,e7<|xe.u,e7<|xe.v,e7<|xe.w,e7<|xe.lb,e7<|xe.sg] 54::e8 b1 [e7 kd,e7 wd,e7 mo,e7 bd,e7<|k.b.lt,e7<|k.b.mr,.slice v.w.a k.b.ws.length v.w.c,e7 nd,.slice v.l.a k.S.length v.l.c,e7 nd,.slice v.p.e1.a (edgesK k.S).length v.p.e1.c,.slice v.p.n1.a (coreN nd<|edgesK k.S).length v.p.n1.c,e7 nd,.slice v.p.e2.a (edgesK k.S).length v.p.e2.c,.slice v.p.n2.a (trussG nd<|edgesK k.S).length v.p.n2.c,e7 nd,.slice v.p.e3.a (edgesK k.S).length v.p.e3.c,e7<|triS nd (edgesK k.S) / 3,.slice v.p.n3.a (triL nd<|edgesK k.S).length v.p.n3.c,e7 nd,.slice v.p.e4.a (edgesK k.S).length v.p.e4.c,e7<|wedgeC nd<|edgesK k.S,e7<|quadC nd<|edgesK k.S,.slice v.p.n4.a (quadL nd<|edgesK k.S).length v.p.n4.c,e7<|k.tm] 47::(Y4++I)) (Cw<|C6 (A:=Y4) (L:=[e8 b3 [e7 0,e7 0,e7 0,e7 0,e7 0,e7 0,.slice none 0 0,e7 0,.slice none 0 0,e7 0,.slice none 0 0,.slice none 0 0,e7 0,.slice none 0 0,.slice none 0 0,e7 0,.slice none 0 0,e7 0,.slice none 0 0,e7 0,.slice none 0 0,e7 0,e7 0,.slice none 0 0,e7 0] 47,e8 b2 [e7 (xe.kd),e7<|xe.tm,e7<|xe.u,e7<|xe.v,e7<|xe.w,e7<|xe.lb,e7<|xe.sg] 54,e8 b1 [e7 kd,e7 wd,e7 mo,e7 bd,e7<|k.b.lt,e7<|k.b.mr,.slice v.w.a k.b.ws.length v.w.c,e7 nd,.slice v.l.a k.S.length v.l.c,e7 nd,.slice v.p.e1.a (edgesK k.S).length v.p.e1.c,.slice v.p.n1.a (coreN nd<|edgesK k.S).length v.p.n1.c,e7 nd,.slice v.p.e2.a (edgesK k.S).length v.p.e2.c,.slice v.p.n2.a (trussG nd<|edgesK k.S).length v.p.n2.c,e7 nd,.slice v.p.e3.a (edgesK k.S).length v.p.e3.c,e7<|triS nd (edgesK k.S) / 3,.slice v.p.n3.a (triL nd<|edgesK k.S).length v.p.n3.c,e7 nd,.slice v.p.e4.a (edgesK k.S).length v.p.e4.c,e7<|wedgeC nd<|edgesK k.S,e7<|quadC nd<|edgesK k.S,.slice v.p.n4.a (quadL nd<|edgesK k.S).length v.p.n4.c,e7<|k.tm] 47]) (T:=I)) ?_
 refine Gm C<|Gr (Ak C C)<|Gr (Ak C C)<|Gr (Ak C C)<|Ge1 (A2 ty32 C) λb9=>Ge0 (Dk ty32) ?_
 refine Ga C<|Ga C<|Ad<|Am (S5 10 9 8 4 2 C C C C C)<|Ap<|Af<|Gm C<|Gr (Bn C C)<|Ad<|A8 C (λaj=>?_)<|λaj=>?_
 ·exact absurd aj dc
 refine Aw<|Ah<|Af<|Gr (A5 (vs:=[_,_,_,_,_,_,_,_,_,_,_,_,_,_,_,_,_,_,_,_,_,_,_,_,_]) ty47) ?_
 refine Gl4 ty32 ?_
 refine Gm C<|G.e (Aj c_ C C<|Released_ok (T:=(Y4++T)) (k:=k) (v:=v) (bf:=(k.b.push bd xe)) (evs:=(k.b.out bd xe)) (by repeat (first|exact hH|exact Bu _|apply Bt|apply Ci|apply B0)) (KpF.fit hF<|Fit.appR _ _) hK ak an ao.1 ao.2 (by have h9:=push_wlen k.b bd xe;omega) (by have h9:=out_len k.b bd xe;omega)<|Bg hT Av) ?_
 rintro _ _ ⟨_,_,⟨aa,Y11,ab,ai,rfl,Z,M,rfl⟩,rfl,rfl⟩
 refine D9 (J:=e8 b9 [e7 bd,e7<|(k.b.push bd xe).lt,e7<|(k.b.push bd xe).mr,.slice ae (k.b.push bd xe).ws.length ah] 32::e8 b3 [e7 0,e7 0,e7 0,e7 0,e7 0,e7 0,.slice none 0 0,e7 0,.slice none 0 0,e7 0,.slice none 0 0,.slice none 0 0,e7 0,.slice none 0 0,.slice none 0 0,e7 0,.slice none 0 0,e7 0,.slice none 0 0,e7 0,.slice none 0 0,e7 0,e7 0,.slice none 0 0,e7 0] 47::e8 b2 [e7 (xe.kd),e7<|xe.tm,e7<|xe.u,e7<|xe.v,e7<|xe.w,e7<|xe.lb,e7<|xe.sg] 54::e8 b1 [e7 kd,e7 wd,e7 mo,e7 bd,e7<|k.b.lt,e7<|k.b.mr,.slice v.w.a k.b.ws.length v.w.c,e7 nd,.slice v.l.a k.S.length v.l.c,e7 nd,.slice v.p.e1.a (edgesK k.S).length v.p.e1.c,.slice v.p.n1.a (coreN nd<|edgesK k.S).length v.p.n1.c,e7 nd,.slice v.p.e2.a (edgesK k.S).length v.p.e2.c,.slice v.p.n2.a (trussG nd<|edgesK k.S).length v.p.n2.c,e7 nd,.slice v.p.e3.a (edgesK k.S).length v.p.e3.c,e7<|triS nd (edgesK k.S) / 3,.slice v.p.n3.a (triL nd<|edgesK k.S).length v.p.n3.c,e7 nd,.slice v.p.e4.a (edgesK k.S).length v.p.e4.c,e7<|wedgeC nd<|edgesK k.S,e7<|quadC nd<|edgesK k.S,.slice v.p.n4.a (quadL nd<|edgesK k.S).length v.p.n4.c,e7<|k.tm] 47::(Y11++(Y4++I))) (Cw<|C6 (A:=Y11) (L:=[e8 b9 [e7 bd,e7<|(k.b.push bd xe).lt,e7<|(k.b.push bd xe).mr,.slice ae (k.b.push bd xe).ws.length ah] 32,e8 b3 [e7 0,e7 0,e7 0,e7 0,e7 0,e7 0,.slice none 0 0,e7 0,.slice none 0 0,e7 0,.slice none 0 0,.slice none 0 0,e7 0,.slice none 0 0,.slice none 0 0,e7 0,.slice none 0 0,e7 0,.slice none 0 0,e7 0,.slice none 0 0,e7 0,e7 0,.slice none 0 0,e7 0] 47,e8 b2 [e7 (xe.kd),e7<|xe.tm,e7<|xe.u,e7<|xe.v,e7<|xe.w,e7<|xe.lb,e7<|xe.sg] 54,e8 b1 [e7 kd,e7 wd,e7 mo,e7 bd,e7<|k.b.lt,e7<|k.b.mr,.slice v.w.a k.b.ws.length v.w.c,e7 nd,.slice v.l.a k.S.length v.l.c,e7 nd,.slice v.p.e1.a (edgesK k.S).length v.p.e1.c,.slice v.p.n1.a (coreN nd<|edgesK k.S).length v.p.n1.c,e7 nd,.slice v.p.e2.a (edgesK k.S).length v.p.e2.c,.slice v.p.n2.a (trussG nd<|edgesK k.S).length v.p.n2.c,e7 nd,.slice v.p.e3.a (edgesK k.S).length v.p.e3.c,e7<|triS nd (edgesK k.S) / 3,.slice v.p.n3.a (triL nd<|edgesK k.S).length v.p.n3.c,e7 nd,.slice v.p.e4.a (edgesK k.S).length v.p.e4.c,e7<|wedgeC nd<|edgesK k.S,e7<|quadC nd<|edgesK k.S,.slice v.p.n4.a (quadL nd<|edgesK k.S).length v.p.n4.c,e7<|k.tm] 47]) (T:=(Y4++I))) ?_
 refine Gr (Ak C C)<|Gr (Ak C C)<|Gr (Ak C C)<|Ge0 (B6 (cs:=[_,_,_,_,_,_,_,_,_,_,_,_,_,_,_,_,_,_,_,_,_,_,_,_,_]) (vs:=[_,_,_,_,_,_,_,_,_,_,_,_,_,_,_,_,_,_,_,_,_,_,_,_,_]) (cs':=[_,_,_,_,_,_,_,_,_,_,_,_,_,_,_,_,_,_,_,_,_,_,_,_,_]) ty47) ?_
 exact Ga C<|Ga C<|Ad<|Am (S3 6 5 4 C C C)<|Ay<|C4 C ty47 C C C mm C (((Y11++Y4)++I)) (by rw [List.append_assoc];exact Bm) ⟨aa,(Y11++Y4),ab,ai,rfl,(by rw [List.append_assoc];exact Z),(by rw [List.append_assoc];exact M),rfl⟩
theorem FeedL_ok{nd kd wd mo bd:Int}{k:EnS}{v:KpV}(hF:KpF κ I nd k v)(hK:EnOk nd kd wd mo bd k)(ab:k.b.ws.length<=4000){xe:Ev}(hx:FitOk nd xe)(ht:xe.tm<=k.b.mr)(hT:TabRd κ I 0 tzCells):eu prog κ 17 [.agg #[e7 kd,e7 wd,e7 mo,e7 bd,e7 (k.b.lt),e7 (k.b.mr),.slice v.w.a k.b.ws.length v.w.c,e7 nd,.slice v.l.a k.S.length v.l.c,e7 nd,.slice v.p.e1.a (edgesK k.S).length v.p.e1.c,.slice v.p.n1.a (coreN nd (edgesK k.S)).length v.p.n1.c,e7 nd,.slice v.p.e2.a (edgesK k.S).length v.p.e2.c,.slice v.p.n2.a (trussG nd (edgesK k.S)).length v.p.n2.c,e7 nd,.slice v.p.e3.a (edgesK k.S).length v.p.e3.c,e7 (triS nd (edgesK k.S) / 3),.slice v.p.n3.a (triL nd (edgesK k.S)).length v.p.n3.c,e7 nd,.slice v.p.e4.a (edgesK k.S).length v.p.e4.c,e7 (wedgeC nd (edgesK k.S)),e7 (quadC nd (edgesK k.S)),.slice v.p.n4.a (quadL nd (edgesK k.S)).length v.p.n4.c,e7 (k.tm)],.agg #[e7 (xe.kd),e7 (xe.tm),e7 (xe.u),e7 (xe.v),e7 (xe.w),e7 (xe.lb),e7 (xe.sg)]] I (λr J=>r = .tuple #[.agg #[e7 0,e7 0,e7 0,e7 0,e7 0,e7 0,.slice none 0 0,e7 0,.slice none 0 0,e7 0,.slice none 0 0,.slice none 0 0,e7 0,.slice none 0 0,.slice none 0 0,e7 0,.slice none 0 0,e7 0,.slice none 0 0,e7 0,.slice none 0 0,e7 0,e7 0,.slice none 0 0,e7 0],.slice none 0 0,e7 10]/\I=J):=by
 refine Ce2 Tryz.func17 C C ?_
 refine Af<|Ge1 (Bc (cs:=[_,_,_,_,_,_,_,_,_,_,_,_,_,_,_,_,_,_,_,_,_,_,_,_,_]) C C C) λb1=>Ge1 (Bc (cs:=[_,_,_,_,_,_,_]) C C C) λb2=>Ge1 (A2 ty47 C) λb3=>Ga C<|Ga C<|Ad<|Ap<|Af<|Gr (A5 (vs:=[_,_,_,_,_,_,_,_,_,_,_,_,_,_,_,_,_,_,_,_,_,_,_,_,_]) ty47) ?_
 refine Gc0 (Aj c_ C C<|KValid_ok (k:=k) (v:=v) (KpF.fit hF Av) hK om<|Bg hT Av) ?_
 refine Gr (Cr C)<|Ad<|Dw C<|Aw<|Ah<|Ap<|Af<|Gl7 ty54 ?_
 refine Gc0 (Aj c_ C C<|CheckE_ok xe) ?_
 refine Ga C<|Ad<|Af<|Gm C<|Gr (Bn C C)<|Ad<|Am (S5 18 7 4 3 2 C C C C C)<|A8 C (λM=>?_)<|λM=>?_
 ·exact absurd hx.chk M
 refine Aw<|Ah<|Ap<|Af<|Gr (A5 (vs:=[_,_,_,_,_,_,_,_,_,_,_,_,_,_,_,_,_,_,_,_,_,_,_,_,_]) ty47) ?_
 refine Gl7 ty54 ?_
 refine Gc0 (Aj c_ C C<|NodeK_ok (nd:=nd) (e:=xe) hx) ?_
 refine Gr (Cr C)<|Ad<|Dw C<|Aw<|Ah<|Af<|Gf fld47_1 C<|Gl4 ty32 ?_
 refine Gl7 ty54 ?_
 refine G.e (Aj c_ C C<|BPushL_ok (bf:=k.b) (e:=xe) (Bv hF.w<|Ce (κ:=κ)<|by repeat (first|exact hH|exact Bu _|apply Bt|apply Ci|apply B0)) hK.buf om hx.chk ht) ?_
 rintro _ _ ⟨_,_,⟨aa,ad,rfl,rfl⟩,rfl,rfl⟩
 refine Gm C<|Gr (Ak C C)<|Gr (Ak C C)<|Gr (Ak C C)<|Ge1 (A2 ty32 C) λb6=>Ge0 (Dk ty32) ?_
 refine Ga C<|Ga C<|Ad<|Am (S5 10 9 8 4 2 C C C C C)<|Ap<|Af<|Gm C<|Gr (Bn C C)<|Ad<|A8 C (λZ=>?_)<|λZ=>?_
 ·refine Af (Gr (Bp (cells:=[e7 0,e7 0,e7 0,e7 0,e7 0,e7 0,.slice none 0 0,e7 0,.slice none 0 0,e7 0,.slice none 0 0,.slice none 0 0,e7 0,.slice none 0 0,.slice none 0 0,e7 0,.slice none 0 0,e7 0,.slice none 0 0,e7 0,.slice none 0 0,e7 0,e7 0,.slice none 0 0,e7 0]) ty47 Tryz.underlying47 pl47 C kr)<|Gm C<|Ge0 (B6 (cs:=[_,_,_,_,_,_,_,_,_,_,_,_,_,_,_,_,_,_,_,_,_,_,_,_,_]) (vs:=[_,_,_,_,_,_,_,_,_,_,_,_,_,_,_,_,_,_,_,_,_,_,_,_,_]) (cs':=[_,_,_,_,_,_,_,_,_,_,_,_,_,_,_,_,_,_,_,_,_,_,_,_,_]) ty47) ?_)
  exact Ga C<|Ga C<|Ad<|Ay<|Aq<|C4 C ty47 C C C mm C I Av ⟨rfl,rfl⟩
 exact absurd dc Z
theorem Flush_ok{nd kd wd mo bd:Int}{k:EnS}{v:KpV}(hH:Has I T)(hF:KpF κ T nd k v)(hK:EnOk nd kd wd mo bd k)(ap:k.b.ws.length<=4000)(hT:TabRd κ I 0 tzCells):eu prog κ 26 [.agg #[e7 kd,e7 wd,e7 mo,e7 bd,e7 (k.b.lt),e7 (k.b.mr),.slice v.w.a k.b.ws.length v.w.c,e7 nd,.slice v.l.a k.S.length v.l.c,e7 nd,.slice v.p.e1.a (edgesK k.S).length v.p.e1.c,.slice v.p.n1.a (coreN nd (edgesK k.S)).length v.p.n1.c,e7 nd,.slice v.p.e2.a (edgesK k.S).length v.p.e2.c,.slice v.p.n2.a (trussG nd (edgesK k.S)).length v.p.n2.c,e7 nd,.slice v.p.e3.a (edgesK k.S).length v.p.e3.c,e7 (triS nd (edgesK k.S) / 3),.slice v.p.n3.a (triL nd (edgesK k.S)).length v.p.n3.c,e7 nd,.slice v.p.e4.a (edgesK k.S).length v.p.e4.c,e7 (wedgeC nd (edgesK k.S)),e7 (quadC nd (edgesK k.S)),.slice v.p.n4.a (quadL nd (edgesK k.S)).length v.p.n4.c,e7 (k.tm)]] I (λr J=>∃(v':KpV) (Y:List Item) (a:Option Addr) (c:Nat),r = .tuple #[.agg #[e7 kd,e7 wd,e7 mo,e7 bd,e7 ((k.flush kd wd mo).b.lt),e7 ((k.flush kd wd mo).b.mr),.slice v'.w.a (k.flush kd wd mo).b.ws.length v'.w.c,e7 nd,.slice v'.l.a ((k.flush kd wd mo).S).length v'.l.c,e7 nd,.slice v'.p.e1.a (edgesK ((k.flush kd wd mo).S)).length v'.p.e1.c,.slice v'.p.n1.a (coreN nd (edgesK ((k.flush kd wd mo).S))).length v'.p.n1.c,e7 nd,.slice v'.p.e2.a (edgesK ((k.flush kd wd mo).S)).length v'.p.e2.c,.slice v'.p.n2.a (trussG nd (edgesK ((k.flush kd wd mo).S))).length v'.p.n2.c,e7 nd,.slice v'.p.e3.a (edgesK ((k.flush kd wd mo).S)).length v'.p.e3.c,e7 (triS nd (edgesK ((k.flush kd wd mo).S)) / 3),.slice v'.p.n3.a (triL nd (edgesK ((k.flush kd wd mo).S))).length v'.p.n3.c,e7 nd,.slice v'.p.e4.a (edgesK ((k.flush kd wd mo).S)).length v'.p.e4.c,e7 (wedgeC nd (edgesK ((k.flush kd wd mo).S))),e7 (quadC nd (edgesK ((k.flush kd wd mo).S))),.slice v'.p.n4.a (quadL nd (edgesK ((k.flush kd wd mo).S))).length v'.p.n4.c,e7 ((k.flush kd wd mo).tm)],.slice a ((k.xout kd wd mo)).length c,e7 0]/\KpF κ (Y++T) nd (k.flush kd wd mo) v'/\Sl κ (Y++T) (.slice a ((k.xout kd wd mo)).length c) (k.xout kd wd mo)/\J=Y++I):=by
 have ak:=flush_evs hK
 refine Ce1 Tryz.func26 C C ?_
 refine Af<|Ge1 (Bc (cs:=[_,_,_,_,_,_,_,_,_,_,_,_,_,_,_,_,_,_,_,_,_,_,_,_,_]) C C C) λb1=>Ge1 (A2 ty47 C) λb2=>Ga C<|Ga C<|Ad<|Ap<|Af<|Gr (A5 (vs:=[_,_,_,_,_,_,_,_,_,_,_,_,_,_,_,_,_,_,_,_,_,_,_,_,_]) ty47) ?_
 refine Gc0 (Aj c_ C C<|KValid_ok (k:=k) (v:=v) (KpF.fit hF<|Ce (κ:=κ)<|by repeat (first|exact hH|exact Bu _|apply Bt|apply Ci|apply B0)) hK om<|Bg hT Av) ?_
 refine Gr (Cr C)<|Ad<|Dw C<|Aw<|Ah<|Af<|Gf fld47_1 C<|Gl4 ty32 ?_
 refine G.e (Aj c_ C C<|BFlush_ok (T:=T) (bf:=k.b) (by repeat (first|exact hH|exact Bu _|apply Bt|apply Ci|apply B0)) hF.w hK.buf om) ?_
 rintro _ _ ⟨_,_,⟨aa,aj,aq,ao,Y3,rfl,ah,ai,rfl⟩,rfl,rfl⟩
 refine D9 (J:=e8 b2 [e7 0,e7 0,e7 0,e7 0,e7 0,e7 0,.slice none 0 0,e7 0,.slice none 0 0,e7 0,.slice none 0 0,.slice none 0 0,e7 0,.slice none 0 0,.slice none 0 0,e7 0,.slice none 0 0,e7 0,.slice none 0 0,e7 0,.slice none 0 0,e7 0,e7 0,.slice none 0 0,e7 0] 47::e8 b1 [e7 kd,e7 wd,e7 mo,e7 bd,e7<|k.b.lt,e7<|k.b.mr,.slice v.w.a k.b.ws.length v.w.c,e7 nd,.slice v.l.a k.S.length v.l.c,e7 nd,.slice v.p.e1.a (edgesK k.S).length v.p.e1.c,.slice v.p.n1.a (coreN nd<|edgesK k.S).length v.p.n1.c,e7 nd,.slice v.p.e2.a (edgesK k.S).length v.p.e2.c,.slice v.p.n2.a (trussG nd<|edgesK k.S).length v.p.n2.c,e7 nd,.slice v.p.e3.a (edgesK k.S).length v.p.e3.c,e7<|triS nd (edgesK k.S) / 3,.slice v.p.n3.a (triL nd<|edgesK k.S).length v.p.n3.c,e7 nd,.slice v.p.e4.a (edgesK k.S).length v.p.e4.c,e7<|wedgeC nd<|edgesK k.S,e7<|quadC nd<|edgesK k.S,.slice v.p.n4.a (quadL nd<|edgesK k.S).length v.p.n4.c,e7<|k.tm] 47::(Y3++I)) (Cw<|C6 (A:=Y3) (L:=[e8 b2 [e7 0,e7 0,e7 0,e7 0,e7 0,e7 0,.slice none 0 0,e7 0,.slice none 0 0,e7 0,.slice none 0 0,.slice none 0 0,e7 0,.slice none 0 0,.slice none 0 0,e7 0,.slice none 0 0,e7 0,.slice none 0 0,e7 0,.slice none 0 0,e7 0,e7 0,.slice none 0 0,e7 0] 47,e8 b1 [e7 kd,e7 wd,e7 mo,e7 bd,e7<|k.b.lt,e7<|k.b.mr,.slice v.w.a k.b.ws.length v.w.c,e7 nd,.slice v.l.a k.S.length v.l.c,e7 nd,.slice v.p.e1.a (edgesK k.S).length v.p.e1.c,.slice v.p.n1.a (coreN nd<|edgesK k.S).length v.p.n1.c,e7 nd,.slice v.p.e2.a (edgesK k.S).length v.p.e2.c,.slice v.p.n2.a (trussG nd<|edgesK k.S).length v.p.n2.c,e7 nd,.slice v.p.e3.a (edgesK k.S).length v.p.e3.c,e7<|triS nd (edgesK k.S) / 3,.slice v.p.n3.a (triL nd<|edgesK k.S).length v.p.n3.c,e7 nd,.slice v.p.e4.a (edgesK k.S).length v.p.e4.c,e7<|wedgeC nd<|edgesK k.S,e7<|quadC nd<|edgesK k.S,.slice v.p.n4.a (quadL nd<|edgesK k.S).length v.p.n4.c,e7<|k.tm] 47]) (T:=I)) ?_
 refine Gm C<|Gr (Ak C C)<|Gr (Ak C C)<|Gr (Ak C C)<|Ge1 (A2 ty32 C) λb8=>Ge0 (Dk ty32) ?_
 refine Ga C<|Ga C<|Ad<|Am (S5 7 6 5 2 1 C C C C C)<|Ap<|Af<|Gm C<|Gr (Bn C C)<|Ad<|A8 C (λae=>?_)<|λae=>?_
 ·exact absurd ae dc
 refine Aw<|Ah<|Af<|Gr (A5 (vs:=[_,_,_,_,_,_,_,_,_,_,_,_,_,_,_,_,_,_,_,_,_,_,_,_,_]) ty47) ?_
 refine Gl4 ty32 ?_
 refine Gm C<|G.e (Aj c_ C C<|Released_ok (T:=(Y3++T)) (k:=k) (v:=v) (bf:=k.b.flush) (evs:=k.b.ws) (by repeat (first|exact hH|exact Bu _|apply Bt|apply Ci|apply B0)) (KpF.fit hF<|Fit.appR _ _) hK ah ai ak.1 ak.2 (by show (0:Nat)<=100000;omega) om<|Bg hT Av) ?_
 rintro _ _ ⟨_,_,⟨an,Y10,ab,ad,rfl,M,Z,rfl⟩,rfl,rfl⟩
 refine D9 (J:=e8 b8 [e7 bd,e7<|k.b.flush.lt,e7<|k.b.flush.mr,.slice aa k.b.flush.ws.length aj] 32::e8 b2 [e7 0,e7 0,e7 0,e7 0,e7 0,e7 0,.slice none 0 0,e7 0,.slice none 0 0,e7 0,.slice none 0 0,.slice none 0 0,e7 0,.slice none 0 0,.slice none 0 0,e7 0,.slice none 0 0,e7 0,.slice none 0 0,e7 0,.slice none 0 0,e7 0,e7 0,.slice none 0 0,e7 0] 47::e8 b1 [e7 kd,e7 wd,e7 mo,e7 bd,e7<|k.b.lt,e7<|k.b.mr,.slice v.w.a k.b.ws.length v.w.c,e7 nd,.slice v.l.a k.S.length v.l.c,e7 nd,.slice v.p.e1.a (edgesK k.S).length v.p.e1.c,.slice v.p.n1.a (coreN nd<|edgesK k.S).length v.p.n1.c,e7 nd,.slice v.p.e2.a (edgesK k.S).length v.p.e2.c,.slice v.p.n2.a (trussG nd<|edgesK k.S).length v.p.n2.c,e7 nd,.slice v.p.e3.a (edgesK k.S).length v.p.e3.c,e7<|triS nd (edgesK k.S) / 3,.slice v.p.n3.a (triL nd<|edgesK k.S).length v.p.n3.c,e7 nd,.slice v.p.e4.a (edgesK k.S).length v.p.e4.c,e7<|wedgeC nd<|edgesK k.S,e7<|quadC nd<|edgesK k.S,.slice v.p.n4.a (quadL nd<|edgesK k.S).length v.p.n4.c,e7<|k.tm] 47::(Y10++(Y3++I))) (Cw<|C6 (A:=Y10) (L:=[e8 b8 [e7 bd,e7<|k.b.flush.lt,e7<|k.b.flush.mr,.slice aa k.b.flush.ws.length aj] 32,e8 b2 [e7 0,e7 0,e7 0,e7 0,e7 0,e7 0,.slice none 0 0,e7 0,.slice none 0 0,e7 0,.slice none 0 0,.slice none 0 0,e7 0,.slice none 0 0,.slice none 0 0,e7 0,.slice none 0 0,e7 0,.slice none 0 0,e7 0,.slice none 0 0,e7 0,e7 0,.slice none 0 0,e7 0] 47,e8 b1 [e7 kd,e7 wd,e7 mo,e7 bd,e7<|k.b.lt,e7<|k.b.mr,.slice v.w.a k.b.ws.length v.w.c,e7 nd,.slice v.l.a k.S.length v.l.c,e7 nd,.slice v.p.e1.a (edgesK k.S).length v.p.e1.c,.slice v.p.n1.a (coreN nd<|edgesK k.S).length v.p.n1.c,e7 nd,.slice v.p.e2.a (edgesK k.S).length v.p.e2.c,.slice v.p.n2.a (trussG nd<|edgesK k.S).length v.p.n2.c,e7 nd,.slice v.p.e3.a (edgesK k.S).length v.p.e3.c,e7<|triS nd (edgesK k.S) / 3,.slice v.p.n3.a (triL nd<|edgesK k.S).length v.p.n3.c,e7 nd,.slice v.p.e4.a (edgesK k.S).length v.p.e4.c,e7<|wedgeC nd<|edgesK k.S,e7<|quadC nd<|edgesK k.S,.slice v.p.n4.a (quadL nd<|edgesK k.S).length v.p.n4.c,e7<|k.tm] 47]) (T:=(Y3++I))) ?_
 refine Gr (Ak C C)<|Gr (Ak C C)<|Gr (Ak C C)<|Ge0 (B6 (cs:=[_,_,_,_,_,_,_,_,_,_,_,_,_,_,_,_,_,_,_,_,_,_,_,_,_]) (vs:=[_,_,_,_,_,_,_,_,_,_,_,_,_,_,_,_,_,_,_,_,_,_,_,_,_]) (cs':=[_,_,_,_,_,_,_,_,_,_,_,_,_,_,_,_,_,_,_,_,_,_,_,_,_]) ty47) ?_
 exact Ga C<|Ga C<|Ad<|Am (S3 4 3 2 C C C)<|Ay<|C4 C ty47 C C C mm C (((Y10++Y3)++I)) (by rw [List.append_assoc];exact Bm) ⟨an,(Y10++Y3),ab,ad,rfl,(by rw [List.append_assoc];exact M),(by rw [List.append_assoc];exact Z),rfl⟩
end Go.Sl
namespace Go.Sl
variable {P:Program}{κ:Ctx}{N:Frm}{L:Env}{J:List Item}{d:Option Tmp}{ty:TypeId}{ps:String}{af:Array Edge}{gd:Option (Nat×Bool)}
theorem Runs.max4{x y z u:Operand}(hx:er L x=some (e7 0))(hy:er L y=some (e7 0))(M:er L z=some (e7 0))(hu:er L u=some (e7 0)){aty:Array TypeId} :
  Runs P κ N ⟨d,.call {callee:= .builtin .max,args:= #[x,y,z,u],argTypes:=aty},ty,ps,af,gd⟩ L J (e7 0):=
 λa w Z _=>by simp [execOp,resolve,invoke,builtin,Z.eval hx,Z.eval hy,Z.eval M,Z.eval hu,Builtin.max_,Builtin.max2]
end Go.Sl
namespace Go.Sl
open Go.Proofs
set_option maxRecDepth 4000
variable{c nd:Int}{T:List Item}{ua ub va vb:Value}{es:List Pt}{Z ns:List Int}
theorem gr_nil(h:0<=nd/\nd<=64):GrOk nd ([]:List Pt):=⟨h,List.Pairwise.nil,λe Z=>by cases Z⟩
theorem KOpen_ok{κ:Ctx}{I:List Item}{kd wd mo bd:Int}(T:List Item)(ap:0<=nd/\nd<=64)(hw:checkW kd wd mo=0)(hb:0<=bd/\bd<=1048576)(hT:TabRd κ I 0 tzCells):eu prog κ 14 [e7 nd,e7 bd,.agg #[e7 kd,e7 wd,e7 mo]] I (λr J=>∃(v':KpV) (Y:List Item),r = .tuple #[.agg #[e7 kd,e7 wd,e7 mo,e7 bd,e7 ((⟨⟨-1, -1,[]⟩,[],0⟩:EnS).b.lt),e7 ((⟨⟨-1, -1,[]⟩,[],0⟩:EnS).b.mr),.slice v'.w.a (⟨⟨-1, -1,[]⟩,[],0⟩:EnS).b.ws.length v'.w.c,e7 nd,.slice v'.l.a ((⟨⟨-1, -1,[]⟩,[],0⟩:EnS).S).length v'.l.c,e7 nd,.slice v'.p.e1.a (edgesK ((⟨⟨-1, -1,[]⟩,[],0⟩:EnS).S)).length v'.p.e1.c,.slice v'.p.n1.a (coreN nd (edgesK ((⟨⟨-1, -1,[]⟩,[],0⟩:EnS).S))).length v'.p.n1.c,e7 nd,.slice v'.p.e2.a (edgesK ((⟨⟨-1, -1,[]⟩,[],0⟩:EnS).S)).length v'.p.e2.c,.slice v'.p.n2.a (trussG nd (edgesK ((⟨⟨-1, -1,[]⟩,[],0⟩:EnS).S))).length v'.p.n2.c,e7 nd,.slice v'.p.e3.a (edgesK ((⟨⟨-1, -1,[]⟩,[],0⟩:EnS).S)).length v'.p.e3.c,e7 (triS nd (edgesK ((⟨⟨-1, -1,[]⟩,[],0⟩:EnS).S)) / 3),.slice v'.p.n3.a (triL nd (edgesK ((⟨⟨-1, -1,[]⟩,[],0⟩:EnS).S))).length v'.p.n3.c,e7 nd,.slice v'.p.e4.a (edgesK ((⟨⟨-1, -1,[]⟩,[],0⟩:EnS).S)).length v'.p.e4.c,e7 (wedgeC nd (edgesK ((⟨⟨-1, -1,[]⟩,[],0⟩:EnS).S))),e7 (quadC nd (edgesK ((⟨⟨-1, -1,[]⟩,[],0⟩:EnS).S))),.slice v'.p.n4.a (quadL nd (edgesK ((⟨⟨-1, -1,[]⟩,[],0⟩:EnS).S))).length v'.p.n4.c,e7 ((⟨⟨-1, -1,[]⟩,[],0⟩:EnS).tm)],e7 0]/\KpF κ (Y++T) nd (⟨⟨-1, -1,[]⟩,[],0⟩:EnS) v'/\J=Y++I):=by
 refine Ce3 Tryz.func14 C C ?_
 refine Af<|Ge1 (Bc (cs:=[_,_,_]) C C C) λb1=>Ge1 (A2 ty47 C) λb2=>Ga C<|Ad<|Ap<|Af<|Gm C<|Gr (Bb C C)<|Gm C<|Br (d:=21) C (λa0=>?_)<|λa0=>?_
 ·omega
 refine e9 (Ai C)<|e9 (Ck C C)<|Gr (Bd C C)<|Ad<|A8 C (λaz=>?_)<|λaz=>?_
 ·omega
 refine Aw<|Ah<|Af<|Gm C<|Gc0 (Aj c_ C C<|BOpen_ok hb) ?_
 refine Gm C<|Gr (Ak C C)<|Gr (Ak C C)<|Ge1 (A2 ty32 C) λb3=>Ge0 (Dk ty32) ?_
 refine Ga C<|Ad<|Am (S5 9 8 6 5 0 C C C C C)<|Ap<|Af<|Gm C<|Gr (Bn C C)<|Ad<|A8 C (λay=>?_)<|λay=>?_
 ·exact absurd ay dc
 refine Aw<|Ah<|Ap<|Af<|Gl3 ty29 ?_
 refine G.e (Aj c_ C C<|CheckW_ok kd wd mo) ?_
 rintro _ _ ⟨_,_,⟨rfl,rfl⟩,rfl,rfl⟩
 refine Ga C<|Ad<|Af<|Gm C<|Gr (Bn C C)<|Ad<|A8 C (λaw=>?_)<|λaw=>?_
 ·exact absurd hw aw
 refine Aw<|Ah<|Af<|Gm C<|Gr (Bp (cells:=[_,_]) ty38 C2 pl38 C C)<|Ge1 (A2 ty38 C) λb4=>Ge0 (Da ty38) ?_
 refine Ad<|Am (S5 11 8 6 5 0 C C C C C)<|Af<|Gl2 ty38 ?_
 refine G.e (Aj c_ C C<|RepO_ok (nd:=nd) (es:=([]:List Pt)) (Sl.nil _) (gr_nil ap)<|Bg hT Av) ?_
 rintro _ _ ⟨_,_,⟨aq,au,av,ar,rfl,rfl⟩,rfl,rfl⟩
 refine Gm C<|Gr (Ak C C)<|Gr (Ak C C)<|Ge1 (A2 ty40 C) λb9=>Ge0 (C9 ty40) ?_
 refine Ga C<|Ad<|Af<|Gl2 ty38 ?_
 refine G.e (Aj c_ C C<|MOpen_ok (nd:=nd) (es:=([]:List Pt)) (Sl.nil _) (gr_nil ap)<|Bg hT Av) ?_
 rintro _ _ ⟨_,_,⟨Z,aa,M,ae,rfl,rfl⟩,rfl,rfl⟩
 refine Gm C<|Gr (Ak C C)<|Gr (Ak C C)<|Ge1 (A2 ty41 C) λa3=>Ge0 (C9 ty41) ?_
 refine Ga C<|Ad<|Am (S9 14 13 9 12 11 8 6 5 0 C C C C C C C C C)<|Af<|Gl2 ty38 ?_
 refine G.e (Aj c_ C C<|TOpen_ok (nd:=nd) (es:=([]:List Pt)) (Sl.nil _)<|gr_nil ap) ?_
 rintro _ _ ⟨_,_,⟨an,ad,aj,ah,rfl,rfl⟩,rfl,rfl⟩
 refine Gm C<|Gr (Ak C C)<|Gr (Ak C C)<|Ge1 (A2 ty43 C) λa1=>Ge0 (Dk ty43) ?_
 refine Ga C<|Ad<|Am (S11 16 15 14 13 9 12 11 8 6 5 0 C C C C C C C C C C C)<|Af<|Gl2 ty38 ?_
 refine G.e (Aj c_ C C<|QOpen_ok (nd:=nd) (es:=([]:List Pt)) (Sl.nil _) (gr_nil ap)<|Bg hT Av) ?_
 rintro _ _ ⟨_,_,⟨ab,ao,ai,ak,rfl,rfl⟩,rfl,rfl⟩
 refine Gm C<|Gr (Ak C C)<|Gr (Ak C C)<|Ge1 (A2 ty45 C) λa4=>Ge0 (E4 ty45) ?_
 refine Ga C<|Ad<|Am (S12 18 17 16 15 14 13 9 12 8 6 5 0 C C C C C C C C C C C C)<|Ap<|Af<|Gm C<|Gm C<|Gm C<|Gm C<|Gr (Runs.max4 C C C C)<|Ga C<|Ad<|Am (S9 9 17 15 13 12 8 6 5 0 C C C C C C C C C)<|Af<|Gm C<|Gr (Bn C C)<|Ad<|A8 C (λax=>?_)<|λax=>?_
 ·exact absurd ax dc
 refine Aw<|Ah<|Af<|Gl3 ty29 ?_
 refine Gl4 ty32 ?_
 refine Gm C<|Gr (Bp (cells:=[_,_]) ty35 Tryz.underlying35 pl35 C C)<|Gl3 ty40 ?_
 refine Gl3 ty41 ?_
 refine Gl4 ty43 ?_
 refine Gr (A5 (vs:=[_,_,_,_,_]) ty45) ?_
 refine Gr (Bp (cells:=[e7 kd,e7 wd,e7 mo,e7 bd,e7<|(-1),e7<|(-1),.slice none 0 0,e7 nd,.slice none 0 0,e7 nd,.slice aq ([]:List Pt).length au,.slice av (coreN nd ([]:List Pt)).length ar,e7 nd,.slice Z ([]:List Pt).length aa,.slice M (trussG nd ([]:List Pt)).length ae,e7 nd,.slice an ([]:List Pt).length ad,e7<|triS nd ([]:List Pt) / 3,.slice aj (triL nd ([]:List Pt)).length ah,e7 nd,.slice ab ([]:List Pt).length ao,e7<|wedgeC nd ([]:List Pt),e7<|quadC nd ([]:List Pt),.slice ai (quadL nd ([]:List Pt)).length ak,e7 0]) ty47 Tryz.underlying47 pl47 C kr)<|Ge0 (B6 (cs:=[_,_,_,_,_,_,_,_,_,_,_,_,_,_,_,_,_,_,_,_,_,_,_,_,_]) (vs:=[_,_,_,_,_,_,_,_,_,_,_,_,_,_,_,_,_,_,_,_,_,_,_,_,_]) (cs':=[_,_,_,_,_,_,_,_,_,_,_,_,_,_,_,_,_,_,_,_,_,_,_,_,_]) ty47) ?_
 exact Ga C<|Ad<|Am (S2 7 6 C C)<|Ay<|C0 C ty47 C C mm C (([vc 105 (.slice aq ([]:List Pt).length au) (([]:List Pt)),vc 3 (.slice av (coreN nd ([]:List Pt)).length ar)<|coreN nd ([]:List Pt),vc 105 (.slice Z ([]:List Pt).length aa)<|([]:List Pt),vc 3 (.slice M (trussG nd ([]:List Pt)).length ae)<|trussG nd ([]:List Pt),vc 105 (.slice an ([]:List Pt).length ad)<|([]:List Pt),vc 3 (.slice aj (triL nd ([]:List Pt)).length ah)<|triL nd ([]:List Pt),vc 105 (.slice ab ([]:List Pt).length ao)<|([]:List Pt),vc 3 (.slice ai (quadL nd ([]:List Pt)).length ak)<|quadL nd ([]:List Pt)]++I)) Bm ⟨⟨⟨none,0⟩,⟨none,0⟩,⟨⟨aq,au⟩,⟨av,ar⟩,⟨Z,aa⟩,⟨M,ae⟩,⟨an,ad⟩,⟨aj,ah⟩,⟨ab,ao⟩,⟨ai,ak⟩⟩⟩,[vc 105 (.slice aq ([]:List Pt).length au) (([]:List Pt)),vc 3 (.slice av (coreN nd ([]:List Pt)).length ar)<|coreN nd ([]:List Pt),vc 105 (.slice Z ([]:List Pt).length aa)<|([]:List Pt),vc 3 (.slice M (trussG nd ([]:List Pt)).length ae)<|trussG nd ([]:List Pt),vc 105 (.slice an ([]:List Pt).length ad)<|([]:List Pt),vc 3 (.slice aj (triL nd ([]:List Pt)).length ah)<|triL nd ([]:List Pt),vc 105 (.slice ab ([]:List Pt).length ao)<|([]:List Pt),vc 3 (.slice ai (quadL nd ([]:List Pt)).length ak)<|quadL nd ([]:List Pt)],rfl,⟨Sl.nil _,Sl.nil _,⟨Bh,Bh,Bh,Bh,Bh,Bh,Bh,Bh⟩⟩,rfl⟩
theorem FeedA_ok{κ:Ctx}{I:List Item}{kd wd mo bd:Int}{k:EnS}{v:KpV}(hH:Has I T)(hF:KpF κ T nd k v)(hK:EnOk nd kd wd mo bd k)(Z:k.b.ws.length<=4000){xe:Ev}(M:FitOk nd xe)(hT:TabRd κ I 0 tzCells):eu prog κ 17 [.agg #[e7 kd,e7 wd,e7 mo,e7 bd,e7 (k.b.lt),e7 (k.b.mr),.slice v.w.a k.b.ws.length v.w.c,e7 nd,.slice v.l.a k.S.length v.l.c,e7 nd,.slice v.p.e1.a (edgesK k.S).length v.p.e1.c,.slice v.p.n1.a (coreN nd (edgesK k.S)).length v.p.n1.c,e7 nd,.slice v.p.e2.a (edgesK k.S).length v.p.e2.c,.slice v.p.n2.a (trussG nd (edgesK k.S)).length v.p.n2.c,e7 nd,.slice v.p.e3.a (edgesK k.S).length v.p.e3.c,e7 (triS nd (edgesK k.S) / 3),.slice v.p.n3.a (triL nd (edgesK k.S)).length v.p.n3.c,e7 nd,.slice v.p.e4.a (edgesK k.S).length v.p.e4.c,e7 (wedgeC nd (edgesK k.S)),e7 (quadC nd (edgesK k.S)),.slice v.p.n4.a (quadL nd (edgesK k.S)).length v.p.n4.c,e7 (k.tm)],.agg #[e7 (xe.kd),e7 (xe.tm),e7 (xe.u),e7 (xe.v),e7 (xe.w),e7 (xe.lb),e7 (xe.sg)]] I λr J=>(xe.tm<=k.b.mr/\r = .tuple #[.agg #[e7 0,e7 0,e7 0,e7 0,e7 0,e7 0,.slice none 0 0,e7 0,.slice none 0 0,e7 0,.slice none 0 0,.slice none 0 0,e7 0,.slice none 0 0,.slice none 0 0,e7 0,.slice none 0 0,e7 0,.slice none 0 0,e7 0,.slice none 0 0,e7 0,e7 0,.slice none 0 0,e7 0],.slice none 0 0,e7 10]/\I=J)\/(k.b.mr<xe.tm/\∃(v':KpV) (Y:List Item) (a:Option Addr) (c:Nat),r = .tuple #[.agg #[e7 kd,e7 wd,e7 mo,e7 bd,e7 ((k.feed kd wd mo bd xe).b.lt),e7 ((k.feed kd wd mo bd xe).b.mr),.slice v'.w.a (k.feed kd wd mo bd xe).b.ws.length v'.w.c,e7 nd,.slice v'.l.a ((k.feed kd wd mo bd xe).S).length v'.l.c,e7 nd,.slice v'.p.e1.a (edgesK ((k.feed kd wd mo bd xe).S)).length v'.p.e1.c,.slice v'.p.n1.a (coreN nd (edgesK ((k.feed kd wd mo bd xe).S))).length v'.p.n1.c,e7 nd,.slice v'.p.e2.a (edgesK ((k.feed kd wd mo bd xe).S)).length v'.p.e2.c,.slice v'.p.n2.a (trussG nd (edgesK ((k.feed kd wd mo bd xe).S))).length v'.p.n2.c,e7 nd,.slice v'.p.e3.a (edgesK ((k.feed kd wd mo bd xe).S)).length v'.p.e3.c,e7 (triS nd (edgesK ((k.feed kd wd mo bd xe).S)) / 3),.slice v'.p.n3.a (triL nd (edgesK ((k.feed kd wd mo bd xe).S))).length v'.p.n3.c,e7 nd,.slice v'.p.e4.a (edgesK ((k.feed kd wd mo bd xe).S)).length v'.p.e4.c,e7 (wedgeC nd (edgesK ((k.feed kd wd mo bd xe).S))),e7 (quadC nd (edgesK ((k.feed kd wd mo bd xe).S))),.slice v'.p.n4.a (quadL nd (edgesK ((k.feed kd wd mo bd xe).S))).length v'.p.n4.c,e7 ((k.feed kd wd mo bd xe).tm)],.slice a ((k.fout kd wd mo bd xe)).length c,e7 0]/\KpF κ (Y++T) nd (k.feed kd wd mo bd xe) v'/\Sl κ (Y++T) (.slice a ((k.fout kd wd mo bd xe)).length c) (k.fout kd wd mo bd xe)/\J=Y++I):=by
 by_cases ht:xe.tm<=k.b.mr
 ·exact (FeedL_ok (hF.fit hH.fit) hK Z M ht hT).mono λr J h=> .inl ⟨ht,h⟩
 exact (Feed_ok hH hF hK Z M om hT).mono λr J h=> .inr ⟨by omega,h⟩
section
variable {kd wd mo bd:Int}{k k0:EnS}{evs:List Ev}{e:Ev}{i:Nat}
theorem run_next(Z:k=k0.all kd wd mo bd (evs.take i))(hi:i<evs.length)(M:e_ evs i=e):k.next kd wd mo bd e=k0.all kd wd mo bd (evs.take (i+1)):=by
 rw [Cl evs i hi,EnS.all_app,←Z,M];rfl
theorem run_late(Z:k=k0.all kd wd mo bd (evs.take i))(hi:i<evs.length)(M:e_ evs i=e)(ht:e.tm<=k.b.mr):k=k0.all kd wd mo bd (evs.take (i+1)):=by
 rw [←run_next Z hi M];unfold EnS.next;rw [if_pos ht]
theorem run_feed(Z:k=k0.all kd wd mo bd (evs.take i))(hi:i<evs.length)(M:e_ evs i=e)(ht:k.b.mr<e.tm):k.feed kd wd mo bd e=k0.all kd wd mo bd (evs.take (i+1)):=by
 rw [←run_next Z hi M];unfold EnS.next;rw [if_neg om]
theorem run_cnt(M:k=k0.all kd wd mo bd (evs.take i))(hi:i<evs.length)(he:e_ evs i=e):BfS.lates bd k0.b (evs.take (i+1))=BfS.lates bd k0.b (evs.take i)+(if e.tm<=k.b.mr then 1 else 0):=by
 have h1:=(all_rel (kd:=kd) (wd:=wd) (mo:=mo) (bd:=bd) (evs.take i) k0).1
 have Z:k.b=k0.b.all bd (evs.take i):=by rw [M,h1];rfl
 rw [Cl evs i hi,BfS.lates_app,he,Z];rfl
theorem feed_wlen(k:EnS)(e:Ev):(k.feed kd wd mo bd e).b.ws.length<=k.b.ws.length+1:=push_wlen k.b bd e
end
theorem lates_lenB(bd:Int):∀(l:List Ev) (s:BfS),BfS.lates bd s l<=l.length
 |[],s=>Nat.le_refl _
 |e::l,s=>by
  have h:=lates_lenB bd l (s.next bd e)
  show (if e.tm<=s.mr then 1 else 0)+BfS.lates bd (s.next bd e) l<=l.length+1
  split<;>omega
theorem lates_len(bd:Int)(s:BfS)(l:List Ev):BfS.lates bd s l<=l.length:=lates_lenB bd l s
theorem KRun_ok{κ:Ctx}{I:List Item}{kd wd mo bd:Int}{evs:List Ev}{ea:Option Addr}{ec:Nat}(hH:Has I T)(he:Sl κ I (.slice ea evs.length ec) evs)(ad:0<=nd/\nd<=64)(hw:checkW kd wd mo=0)(hb:0<=bd/\bd<=1048576)(aj:∀e∈evs,FitOk nd e)(a1:evs.length<=4000)(hT:TabRd κ I 0 tzCells):eu prog κ 30 [e7 nd,e7 bd,.agg #[e7 kd,e7 wd,e7 mo],.slice ea evs.length ec] I (λr J=>∃(v':KpV) (Y:List Item),r = .tuple #[.agg #[e7 kd,e7 wd,e7 mo,e7 bd,e7 ((EnS.run kd wd mo bd evs).b.lt),e7 ((EnS.run kd wd mo bd evs).b.mr),.slice v'.w.a (EnS.run kd wd mo bd evs).b.ws.length v'.w.c,e7 nd,.slice v'.l.a ((EnS.run kd wd mo bd evs).S).length v'.l.c,e7 nd,.slice v'.p.e1.a (edgesK ((EnS.run kd wd mo bd evs).S)).length v'.p.e1.c,.slice v'.p.n1.a (coreN nd (edgesK ((EnS.run kd wd mo bd evs).S))).length v'.p.n1.c,e7 nd,.slice v'.p.e2.a (edgesK ((EnS.run kd wd mo bd evs).S)).length v'.p.e2.c,.slice v'.p.n2.a (trussG nd (edgesK ((EnS.run kd wd mo bd evs).S))).length v'.p.n2.c,e7 nd,.slice v'.p.e3.a (edgesK ((EnS.run kd wd mo bd evs).S)).length v'.p.e3.c,e7 (triS nd (edgesK ((EnS.run kd wd mo bd evs).S)) / 3),.slice v'.p.n3.a (triL nd (edgesK ((EnS.run kd wd mo bd evs).S))).length v'.p.n3.c,e7 nd,.slice v'.p.e4.a (edgesK ((EnS.run kd wd mo bd evs).S)).length v'.p.e4.c,e7 (wedgeC nd (edgesK ((EnS.run kd wd mo bd evs).S))),e7 (quadC nd (edgesK ((EnS.run kd wd mo bd evs).S))),.slice v'.p.n4.a (quadL nd (edgesK ((EnS.run kd wd mo bd evs).S))).length v'.p.n4.c,e7 ((EnS.run kd wd mo bd evs).tm)],e7 (((BfS.lates bd ⟨-1, -1,[]⟩ evs):Nat):Int),e7 0]/\KpF κ (Y++T) nd (EnS.run kd wd mo bd evs) v'/\J=Y++I):=by
 refine Ce4 Tryz.func30 C C ?_
 refine Af<|Ge1 (Bc (cs:=[_,_,_]) C C C) λb1=>Ge1 (A2 ty47 C) λb2=>Ga C<|Ga C<|Ad<|Af<|Gm C<|Gm C<|Gl3 ty29 ?_
 refine G.e (Aj c_ C C<|KOpen_ok (nd:=nd) (bd:=bd) T ad hw hb<|Bg hT Av) ?_
 rintro _ _ ⟨_,_,⟨ap,Y4,rfl,ai,rfl⟩,rfl,rfl⟩
 refine D9 (J:=e8 b2 [e7 0,e7 0,e7 0,e7 0,e7 0,e7 0,.slice none 0 0,e7 0,.slice none 0 0,e7 0,.slice none 0 0,.slice none 0 0,e7 0,.slice none 0 0,.slice none 0 0,e7 0,.slice none 0 0,e7 0,.slice none 0 0,e7 0,.slice none 0 0,e7 0,e7 0,.slice none 0 0,e7 0] 47::e8 b1 [e7 kd,e7 wd,e7 mo] 29::(Y4++I)) (Cw<|C6 (A:=Y4) (L:=[e8 b2 [e7 0,e7 0,e7 0,e7 0,e7 0,e7 0,.slice none 0 0,e7 0,.slice none 0 0,e7 0,.slice none 0 0,.slice none 0 0,e7 0,.slice none 0 0,.slice none 0 0,e7 0,.slice none 0 0,e7 0,.slice none 0 0,e7 0,.slice none 0 0,e7 0,e7 0,.slice none 0 0,e7 0] 47,e8 b1 [e7 kd,e7 wd,e7 mo] 29]) (T:=I)) ?_
 refine Gm C<|Gr (Ak C C)<|Gr (Ak C C)<|Ge1 (A2 ty47 C) λb5=>Ge0 (B6 (cs:=[_,_,_,_,_,_,_,_,_,_,_,_,_,_,_,_,_,_,_,_,_,_,_,_,_]) (vs:=[_,_,_,_,_,_,_,_,_,_,_,_,_,_,_,_,_,_,_,_,_,_,_,_,_]) (cs':=[_,_,_,_,_,_,_,_,_,_,_,_,_,_,_,_,_,_,_,_,_,_,_,_,_]) ty47) ?_
 refine Ga C<|Ad<|Am (S4 12 11 8 3 C C C C)<|Ap<|Af<|Gm C<|Gr (Bn C C)<|Ad<|A8 C (λah=>?_)<|λah=>?_
 ·exact absurd ah dc
 refine Aw<|Ah<|Af<|Ga C<|Ad<|Ap<|Af<|Gm C<|Gr (Bj Ar C)<|Gm C<|Ad<|A0<|B1 (σ:=Nat×EnS×KpV×(List Item)×Nat) (λs=>([(8,.pointer<|some ⟨b2,0,none⟩),(11,.pointer<|some ⟨b5,0,none⟩),(13,e7 ((s.2.2.2.2:Nat):Int)),(30,.slice ea evs.length ec),(31,e7 ((evs.length:Nat):Int)),(32,e7 ((s.1:Nat):Int))]:Env)) (λs=>e8 b5 [e7 kd,e7 wd,e7 mo,e7 bd,e7<|s.2.1.b.lt,e7<|s.2.1.b.mr,.slice s.2.2.1.w.a s.2.1.b.ws.length s.2.2.1.w.c,e7 nd,.slice s.2.2.1.l.a s.2.1.S.length s.2.2.1.l.c,e7 nd,.slice s.2.2.1.p.e1.a (edgesK s.2.1.S).length s.2.2.1.p.e1.c,.slice s.2.2.1.p.n1.a (coreN nd<|edgesK s.2.1.S).length s.2.2.1.p.n1.c,e7 nd,.slice s.2.2.1.p.e2.a (edgesK s.2.1.S).length s.2.2.1.p.e2.c,.slice s.2.2.1.p.n2.a (trussG nd<|edgesK s.2.1.S).length s.2.2.1.p.n2.c,e7 nd,.slice s.2.2.1.p.e3.a (edgesK s.2.1.S).length s.2.2.1.p.e3.c,e7<|triS nd (edgesK s.2.1.S) / 3,.slice s.2.2.1.p.n3.a (triL nd<|edgesK s.2.1.S).length s.2.2.1.p.n3.c,e7 nd,.slice s.2.2.1.p.e4.a (edgesK s.2.1.S).length s.2.2.1.p.e4.c,e7<|wedgeC nd<|edgesK s.2.1.S,e7<|quadC nd<|edgesK s.2.1.S,.slice s.2.2.1.p.n4.a (quadL nd<|edgesK s.2.1.S).length s.2.2.1.p.n4.c,e7<|s.2.1.tm] 47::e8 b2 [e7 0,e7 0,e7 0,e7 0,e7 0,e7 0,.slice none 0 0,e7 0,.slice none 0 0,e7 0,.slice none 0 0,.slice none 0 0,e7 0,.slice none 0 0,.slice none 0 0,e7 0,.slice none 0 0,e7 0,.slice none 0 0,e7 0,.slice none 0 0,e7 0,e7 0,.slice none 0 0,e7 0] 47::e8 b1 [e7 kd,e7 wd,e7 mo] 29::(s.2.2.2.1++I)) (λs=>(s.1<=evs.length)/\(s.2.1=(⟨⟨-1, -1,[]⟩,[],0⟩:EnS).all kd wd mo bd (evs.take s.1))/\(s.2.2.2.2=BfS.lates bd ⟨-1, -1,[]⟩ (evs.take s.1))/\(EnOk nd kd wd mo bd s.2.1)/\(KpF κ (s.2.2.2.1++T) nd s.2.1 s.2.2.1)/\(s.2.1.b.ws.length<=s.1)) (λs=>evs.length - s.1) (0,(⟨⟨-1, -1,[]⟩,[],0⟩:EnS),ap,Y4,0) ⟨om,rfl,rfl,(EnOk.open_ ad hw hb),ai,(by show (0:Nat)<=0;omega)⟩ (Aa C<|Aa C<|Aa Cd<|Aa C<|Aa C<|Aa Cd Bl) Bm ?_
 rintro ⟨i,k,v,Y,n⟩ hp
 dsimp only at hp ⊢
 obtain ⟨hi,hk,hn,hK,hF,a0⟩:=hp
 have az:n<=i:=by rw [hn];exact Nat.le_trans (lates_len _ _ _) (by rw [List.length_take];omega)
 refine Af<|Gr (Bb C C)<|Ad<|Ap<|A8 C (λar=>?_)<|λar=>?_
 ·refine Aw (Ah<|Ap<|A0<|Af<|Gr (Az (α:=Ev) (xs:=evs) Ar ty54 C C (A6 he) om om)<|Gr (B2 (α:=Ev) (xs:=evs) ty54 C (A6 he) om om) ?_)
  have ab:=aj _ (Ca (xs:=evs) (i:=(i:Int)) om om)
  generalize hxe:e_ evs i=xe at ab ⊢
  refine Ge1 (A2 ty54 C) λb6=>Ge0 (Es7_7 ty54) ?_
  refine Ad<|Af<|Gr (A5 (vs:=[_,_,_,_,_,_,_,_,_,_,_,_,_,_,_,_,_,_,_,_,_,_,_,_,_]) ty47) ?_
  refine Gl7 ty54 ?_
  refine G.e (Aj c_ C C<|FeedA_ok (T:=(Y++T)) (k:=k) (v:=v) (by repeat (first|exact hH|exact Bu _|apply Bt|apply Ci|apply B0)) hF hK om ab<|Bg hT Av) ?_
  rintro _ _ ⟨_,_,(⟨Z,rfl,rfl⟩|⟨Z,au,Y8,a5,aw,rfl,ak,ax,rfl⟩),rfl,rfl⟩
  ·skip
   refine Gm C<|Gr (Ak C C)<|Gr (Ak C C)<|Gr (Ak C C)<|Ge1 (A2 ty47 C) λa3=>Ge0 (B6 (cs:=[_,_,_,_,_,_,_,_,_,_,_,_,_,_,_,_,_,_,_,_,_,_,_,_,_]) (vs:=[_,_,_,_,_,_,_,_,_,_,_,_,_,_,_,_,_,_,_,_,_,_,_,_,_]) (cs':=[_,_,_,_,_,_,_,_,_,_,_,_,_,_,_,_,_,_,_,_,_,_,_,_,_]) ty47) ?_
   refine Ga C<|Ga C<|Ad<|Am (S8 18 16 8 11 13 30 31 32 C C C C C C C C)<|Af<|Gm C<|Ad<|A0<|Af<|Gr (Bs C C)<|Ga C<|Ad<|A8 C (λM=>?_)<|λM=>?_
   ·exact absurd M dc
   refine Af<|Gr (Bs C C)<|Ga C<|Ad<|A8 C (λao=>?_)<|λao=>?_
   ·exact Au<|Gm C<|Gr (Rad C C)<|Ga C<|Bo<|Al<|Al<|Ah<|Am (S6 13 8 11 30 31 32 C C C C C C)<|Au<|Gr (Rad C C)<|Gm C<|Bo<|Cf ((i+1),(k),(v),(Y),(n+1))<|by dsimp only;exact ⟨om,(run_late hk om hxe Z),(by rw [run_cnt (k0:=(⟨⟨-1, -1,[]⟩,[],0⟩:EnS)) hk om hxe,if_pos Z,hn]),hK,hF,om⟩
   exact absurd dc ao
  refine D9 (J:=e8 b6 [e7 (xe.kd),e7<|xe.tm,e7<|xe.u,e7<|xe.v,e7<|xe.w,e7<|xe.lb,e7<|xe.sg] 54::e8 b5 [e7 kd,e7 wd,e7 mo,e7 bd,e7<|k.b.lt,e7<|k.b.mr,.slice v.w.a k.b.ws.length v.w.c,e7 nd,.slice v.l.a k.S.length v.l.c,e7 nd,.slice v.p.e1.a (edgesK k.S).length v.p.e1.c,.slice v.p.n1.a (coreN nd<|edgesK k.S).length v.p.n1.c,e7 nd,.slice v.p.e2.a (edgesK k.S).length v.p.e2.c,.slice v.p.n2.a (trussG nd<|edgesK k.S).length v.p.n2.c,e7 nd,.slice v.p.e3.a (edgesK k.S).length v.p.e3.c,e7<|triS nd (edgesK k.S) / 3,.slice v.p.n3.a (triL nd<|edgesK k.S).length v.p.n3.c,e7 nd,.slice v.p.e4.a (edgesK k.S).length v.p.e4.c,e7<|wedgeC nd<|edgesK k.S,e7<|quadC nd<|edgesK k.S,.slice v.p.n4.a (quadL nd<|edgesK k.S).length v.p.n4.c,e7<|k.tm] 47::e8 b2 [e7 0,e7 0,e7 0,e7 0,e7 0,e7 0,.slice none 0 0,e7 0,.slice none 0 0,e7 0,.slice none 0 0,.slice none 0 0,e7 0,.slice none 0 0,.slice none 0 0,e7 0,.slice none 0 0,e7 0,.slice none 0 0,e7 0,.slice none 0 0,e7 0,e7 0,.slice none 0 0,e7 0] 47::e8 b1 [e7 kd,e7 wd,e7 mo] 29::(Y8++(Y++I))) (Cw<|C6 (A:=Y8) (L:=[e8 b6 [e7 (xe.kd),e7<|xe.tm,e7<|xe.u,e7<|xe.v,e7<|xe.w,e7<|xe.lb,e7<|xe.sg] 54,e8 b5 [e7 kd,e7 wd,e7 mo,e7 bd,e7<|k.b.lt,e7<|k.b.mr,.slice v.w.a k.b.ws.length v.w.c,e7 nd,.slice v.l.a k.S.length v.l.c,e7 nd,.slice v.p.e1.a (edgesK k.S).length v.p.e1.c,.slice v.p.n1.a (coreN nd<|edgesK k.S).length v.p.n1.c,e7 nd,.slice v.p.e2.a (edgesK k.S).length v.p.e2.c,.slice v.p.n2.a (trussG nd<|edgesK k.S).length v.p.n2.c,e7 nd,.slice v.p.e3.a (edgesK k.S).length v.p.e3.c,e7<|triS nd (edgesK k.S) / 3,.slice v.p.n3.a (triL nd<|edgesK k.S).length v.p.n3.c,e7 nd,.slice v.p.e4.a (edgesK k.S).length v.p.e4.c,e7<|wedgeC nd<|edgesK k.S,e7<|quadC nd<|edgesK k.S,.slice v.p.n4.a (quadL nd<|edgesK k.S).length v.p.n4.c,e7<|k.tm] 47,e8 b2 [e7 0,e7 0,e7 0,e7 0,e7 0,e7 0,.slice none 0 0,e7 0,.slice none 0 0,e7 0,.slice none 0 0,.slice none 0 0,e7 0,.slice none 0 0,.slice none 0 0,e7 0,.slice none 0 0,e7 0,.slice none 0 0,e7 0,.slice none 0 0,e7 0,e7 0,.slice none 0 0,e7 0] 47,e8 b1 [e7 kd,e7 wd,e7 mo] 29]) (T:=(Y++I))) ?_
  refine Gm C<|Gr (Ak C C)<|Gr (Ak C C)<|Gr (Ak C C)<|Ge1 (A2 ty47 C) λa4=>Ge0 (B6 (cs:=[_,_,_,_,_,_,_,_,_,_,_,_,_,_,_,_,_,_,_,_,_,_,_,_,_]) (vs:=[_,_,_,_,_,_,_,_,_,_,_,_,_,_,_,_,_,_,_,_,_,_,_,_,_]) (cs':=[_,_,_,_,_,_,_,_,_,_,_,_,_,_,_,_,_,_,_,_,_,_,_,_,_]) ty47) ?_
  refine Ga C<|Ga C<|Ad<|Am (S8 18 16 8 11 13 30 31 32 C C C C C C C C)<|Af<|Gm C<|Ad<|A0<|Af<|Gr (Bs C C)<|Ga C<|Ad<|A8 C (λM=>?_)<|λM=>?_
  ·refine Au (Gr (A5 (vs:=[_,_,_,_,_,_,_,_,_,_,_,_,_,_,_,_,_,_,_,_,_,_,_,_,_]) ty47) ?_)
   refine Ge0 (B6 (cs:=[_,_,_,_,_,_,_,_,_,_,_,_,_,_,_,_,_,_,_,_,_,_,_,_,_]) (vs:=[_,_,_,_,_,_,_,_,_,_,_,_,_,_,_,_,_,_,_,_,_,_,_,_,_]) (cs':=[_,_,_,_,_,_,_,_,_,_,_,_,_,_,_,_,_,_,_,_,_,_,_,_,_]) ty47) ?_
   exact Bo<|Al<|Al<|Ah<|Au<|Gr (Rad C C)<|Gm C<|Bo<|Cf ((i+1),((k.feed kd wd mo bd xe)),(au),((Y8++Y)),(n)) (by dsimp only;exact ⟨om,(run_feed hk om hxe Z),(by rw [run_cnt (k0:=(⟨⟨-1, -1,[]⟩,[],0⟩:EnS)) hk om hxe,if_neg om,hn];rfl),(hK.feed ab Z),(by rw [List.append_assoc];exact ak),(by have h9:=feed_wlen (kd:=kd) (wd:=wd) (mo:=mo) (bd:=bd) k xe;omega)⟩) (hI:=by (try dsimp only);exact (by rw [List.append_assoc];exact Bm))
  exact absurd dc M
 refine Bx<|Ao<|Ao<|A9<|Ah<|Af<|Gr (A5 (vs:=[_,_,_,_,_,_,_,_,_,_,_,_,_,_,_,_,_,_,_,_,_,_,_,_,_]) ty47) ?_
 refine G.e (Aj c_ C C<|Flush_ok (T:=(Y++T)) (k:=k) (v:=v) (by repeat (first|exact hH|exact Bu _|apply Bt|apply Ci|apply B0)) hF hK om<|Bg hT Av) ?_
 rintro _ _ ⟨_,_,⟨ae,Y14,ay,av,rfl,aa,aq,rfl⟩,rfl,rfl⟩
 refine D9 (J:=e8 b5 [e7 kd,e7 wd,e7 mo,e7 bd,e7<|k.b.lt,e7<|k.b.mr,.slice v.w.a k.b.ws.length v.w.c,e7 nd,.slice v.l.a k.S.length v.l.c,e7 nd,.slice v.p.e1.a (edgesK k.S).length v.p.e1.c,.slice v.p.n1.a (coreN nd<|edgesK k.S).length v.p.n1.c,e7 nd,.slice v.p.e2.a (edgesK k.S).length v.p.e2.c,.slice v.p.n2.a (trussG nd<|edgesK k.S).length v.p.n2.c,e7 nd,.slice v.p.e3.a (edgesK k.S).length v.p.e3.c,e7<|triS nd (edgesK k.S) / 3,.slice v.p.n3.a (triL nd<|edgesK k.S).length v.p.n3.c,e7 nd,.slice v.p.e4.a (edgesK k.S).length v.p.e4.c,e7<|wedgeC nd<|edgesK k.S,e7<|quadC nd<|edgesK k.S,.slice v.p.n4.a (quadL nd<|edgesK k.S).length v.p.n4.c,e7<|k.tm] 47::e8 b2 [e7 0,e7 0,e7 0,e7 0,e7 0,e7 0,.slice none 0 0,e7 0,.slice none 0 0,e7 0,.slice none 0 0,.slice none 0 0,e7 0,.slice none 0 0,.slice none 0 0,e7 0,.slice none 0 0,e7 0,.slice none 0 0,e7 0,.slice none 0 0,e7 0,e7 0,.slice none 0 0,e7 0] 47::e8 b1 [e7 kd,e7 wd,e7 mo] 29::(Y14++(Y++I))) (Cw<|C6 (A:=Y14) (L:=[e8 b5 [e7 kd,e7 wd,e7 mo,e7 bd,e7<|k.b.lt,e7<|k.b.mr,.slice v.w.a k.b.ws.length v.w.c,e7 nd,.slice v.l.a k.S.length v.l.c,e7 nd,.slice v.p.e1.a (edgesK k.S).length v.p.e1.c,.slice v.p.n1.a (coreN nd<|edgesK k.S).length v.p.n1.c,e7 nd,.slice v.p.e2.a (edgesK k.S).length v.p.e2.c,.slice v.p.n2.a (trussG nd<|edgesK k.S).length v.p.n2.c,e7 nd,.slice v.p.e3.a (edgesK k.S).length v.p.e3.c,e7<|triS nd (edgesK k.S) / 3,.slice v.p.n3.a (triL nd<|edgesK k.S).length v.p.n3.c,e7 nd,.slice v.p.e4.a (edgesK k.S).length v.p.e4.c,e7<|wedgeC nd<|edgesK k.S,e7<|quadC nd<|edgesK k.S,.slice v.p.n4.a (quadL nd<|edgesK k.S).length v.p.n4.c,e7<|k.tm] 47,e8 b2 [e7 0,e7 0,e7 0,e7 0,e7 0,e7 0,.slice none 0 0,e7 0,.slice none 0 0,e7 0,.slice none 0 0,.slice none 0 0,e7 0,.slice none 0 0,.slice none 0 0,e7 0,.slice none 0 0,e7 0,.slice none 0 0,e7 0,.slice none 0 0,e7 0,e7 0,.slice none 0 0,e7 0] 47,e8 b1 [e7 kd,e7 wd,e7 mo] 29]) (T:=(Y++I))) ?_
 refine Gm C<|Gr (Ak C C)<|Gr (Ak C C)<|Gr (Ak C C)<|Ge0 (B6 (cs:=[_,_,_,_,_,_,_,_,_,_,_,_,_,_,_,_,_,_,_,_,_,_,_,_,_]) (vs:=[_,_,_,_,_,_,_,_,_,_,_,_,_,_,_,_,_,_,_,_,_,_,_,_,_]) (cs':=[_,_,_,_,_,_,_,_,_,_,_,_,_,_,_,_,_,_,_,_,_,_,_,_,_]) ty47) ?_
 refine Ga C<|Ad<|Am (S4 12 8 11 13 C C C C)<|Ap<|Af<|Gm C<|Gr (Bn C C)<|Ad<|A8 C (λan=>?_)<|λan=>?_
 ·exact absurd an dc
 refine Aw<|Ah<|Af<|Gr (A5 (vs:=[_,_,_,_,_,_,_,_,_,_,_,_,_,_,_,_,_,_,_,_,_,_,_,_,_]) ty47) ?_
 refine Gm C<|Ge0 (B6 (cs:=[_,_,_,_,_,_,_,_,_,_,_,_,_,_,_,_,_,_,_,_,_,_,_,_,_]) (vs:=[_,_,_,_,_,_,_,_,_,_,_,_,_,_,_,_,_,_,_,_,_,_,_,_,_]) (cs':=[_,_,_,_,_,_,_,_,_,_,_,_,_,_,_,_,_,_,_,_,_,_,_,_,_]) ty47) ?_
 refine Ga C<|Ga C<|Ad<|Ay ?_
 rw [show evs.take i=evs from List.take_of_length_le om] at hk hn
 have hR:(EnS.run kd wd mo bd evs)=k.flush kd wd mo:=by rw [hk];rfl
 rw [hR,←hn]
 exact C4 C ty47 C C C mm C (((Y14++Y)++I)) (by rw [List.append_assoc];exact Bm) ⟨ae,(Y14++Y),rfl,(by rw [List.append_assoc];exact aa),rfl⟩
variable {κ:Ctx}{I:List Item}
structure Wn3 where
 k:Int
 w:Int
 m:Int
deriving DecidableEq,Inhabited
instance:Enc Wn3:=⟨λa=>[e7 a.k,e7 a.w,e7 a.m],3,by omega,λ_=>rfl,λa x h=>by
 simp only [List.mem_cons,List.not_mem_nil,or_false] at h
 rcases h with rfl|rfl|rfl<;>rfl⟩
theorem eqt29:EqT prog 29 Wn3:=EqT.flat (λp:Wn3=>[p.k,p.w,p.m]) (λ_=>rfl) (λx y h=>by cases x;cases y;simpa using h) (n:=3) (λ_=>rfl) kr kr kr kr kr
theorem SameB_ok{bd lt mr:Int}{xs:List Ev}(hl:Sl κ I va xs)(hm:Sl κ I vb xs):eu prog κ 74 [.agg #[e7 bd,e7 lt,e7 mr,va],.agg #[e7 bd,e7 lt,e7 mr,vb]] I (λr J=>r = .bool true/\I=J):=by
 refine Ce2 Tryz.func74 C C ?_
 refine Af<|Ge1 (Bc (cs:=[_,_,_,_]) C C C) λb1=>Ge1 (Bc (cs:=[_,_,_,_]) C C C) λb2=>Ga C<|Ad<|Af<|Gf fld32_0 C<|Gl ef ?_
 refine Gf fld32_0 C<|Gl ef ?_
 refine Gr (Bs C C)<|Gm C<|Br (d:=10) C (λaa=>?_)<|λaa=>?_
 ·refine e9 (Ac fld32_1 C) (e9 (A7 ef) ?_)
  refine e9 (Ac fld32_1 C)<|e9 (A7 ef) ?_
  refine e9 (Bs C C)<|Gr (A3 C C)<|Gm C<|Br (d:=17) C (λM=>?_)<|λM=>?_
  ·refine e9 (Ac fld32_2 C) (e9 (A7 ef) ?_)
   refine e9 (Ac fld32_2 C)<|e9 (A7 ef) ?_
   refine e9 (Bs C C)<|Gr (A3 C C)<|Gm C<|Br (d:=24) C (λZ=>?_)<|λZ=>?_
   ·refine e9 (Ac fld32_3 C) (e9 (A7 ty30) ?_)
    refine e9 (Ac fld32_3 C)<|e9 (A7 ty30) ?_
    refine Dm (Ch C C C) (Aj c_ C C<|Same4_ok (A6 hl)<|A6 hm) ?_
    rintro _ _ ⟨_,_,⟨rfl,rfl⟩,rfl,rfl⟩
    exact Gr (A3 C C)<|Ga C<|Ad<|Am (S1 4 C)<|Ay<|A1 C C I Av ⟨by first|rfl|(rw [decide_eq_true rfl])|(rw [decide_eq_true ⟨rfl,rfl⟩])|(simp;done),rfl⟩
   exact absurd rfl Z
  exact absurd rfl M
 exact absurd rfl aa
theorem Same11_ok(hl:Sl κ I va es)(hm:Sl κ I ua ns)(M:Sl κ I vb es)(aa:Sl κ I ub ns):eu prog κ 75 [.agg #[e7 nd,va,ua],.agg #[e7 nd,vb,ub]] I (λr J=>r = .bool true/\I=J):=by
 refine Ce2 Tryz.func75 C C ?_
 refine Af<|Ge1 (Bc (cs:=[_,_,_]) C C C) λb1=>Ge1 (Bc (cs:=[_,_,_]) C C C) λb2=>Ga C<|Ad<|Af<|Gf fld40_0 C<|Gl2 ty38 ?_
 refine Gf fld40_0 C<|Gl2 ty38 ?_
 refine Gc0 (Aj c_ C C<|Same03_ok (A6 hl)<|A6 M) ?_
 refine Gm C<|Br (d:=10) C (λZ=>?_)<|λZ=>?_
 ·refine e9 (Ac fld40_1 C) (e9 (A7 ty22) ?_)
  refine e9 (Ac fld40_1 C)<|e9 (A7 ty22) ?_
  refine Dm (Ch C C C) (Aj c_ C C<|Same_ok (A6 hm)<|A6 aa) ?_
  rintro _ _ ⟨_,_,⟨rfl,rfl⟩,rfl,rfl⟩
  exact Gr (A3 C C)<|Ga C<|Ad<|Am (S1 4 C)<|Ay<|A1 C C I Av ⟨by first|rfl|(rw [decide_eq_true rfl])|(rw [decide_eq_true ⟨rfl,rfl⟩])|(simp;done),rfl⟩
 exact absurd ⟨rfl,rfl⟩ Z
theorem Same13_ok(hl:Sl κ I va es)(hm:Sl κ I ua ns)(M:Sl κ I vb es)(aa:Sl κ I ub ns):eu prog κ 76 [.agg #[e7 nd,va,ua],.agg #[e7 nd,vb,ub]] I (λr J=>r = .bool true/\I=J):=by
 refine Ce2 Tryz.func76 C C ?_
 refine Af<|Ge1 (Bc (cs:=[_,_,_]) C C C) λb1=>Ge1 (Bc (cs:=[_,_,_]) C C C) λb2=>Ga C<|Ad<|Af<|Gf fld41_0 C<|Gl2 ty38 ?_
 refine Gf fld41_0 C<|Gl2 ty38 ?_
 refine Gc0 (Aj c_ C C<|Same03_ok (A6 hl)<|A6 M) ?_
 refine Gm C<|Br (d:=10) C (λZ=>?_)<|λZ=>?_
 ·refine e9 (Ac fld41_1 C) (e9 (A7 ty22) ?_)
  refine e9 (Ac fld41_1 C)<|e9 (A7 ty22) ?_
  refine Dm (Ch C C C) (Aj c_ C C<|Same_ok (A6 hm)<|A6 aa) ?_
  rintro _ _ ⟨_,_,⟨rfl,rfl⟩,rfl,rfl⟩
  exact Gr (A3 C C)<|Ga C<|Ad<|Am (S1 4 C)<|Ay<|A1 C C I Av ⟨by first|rfl|(rw [decide_eq_true rfl])|(rw [decide_eq_true ⟨rfl,rfl⟩])|(simp;done),rfl⟩
 exact absurd ⟨rfl,rfl⟩ Z
theorem Same29_ok(hl:Sl κ I va es)(hm:Sl κ I ua Z)(ah:Sl κ I vb es)(M:Sl κ I ub Z):eu prog κ 77 [.agg #[e7 nd,va,e7 c,ua],.agg #[e7 nd,vb,e7 c,ub]] I (λr J=>r = .bool true/\I=J):=by
 refine B9 hm.le λaj=>?_
 refine Ce2 Tryz.func77 C C ?_
 refine Af<|Ge1 (Bc (cs:=[_,_,_,_]) C C C) λb1=>Ge1 (Bc (cs:=[_,_,_,_]) C C C) λb2=>Ga C<|Ad<|Ap<|Af<|Gf fld43_0 C<|Gl2 ty38 ?_
 refine Gf fld43_0 C<|Gl2 ty38 ?_
 refine Gc0 (Aj c_ C C<|Same03_ok (A6 hl)<|A6 ah) ?_
 refine Gr (Ea C)<|Gm C<|Br (d:=12) C (λab=>?_)<|λab=>?_
 ·exact absurd ⟨rfl,rfl⟩ ab
 refine e9 (Ac fld43_1 C)<|e9 (A7 ef) ?_
 refine e9 (Ac fld43_1 C)<|e9 (A7 ef) ?_
 refine e9 (Bn C C)<|Gr (Bd C C)<|Gm C<|Br (d:=19) C (λad=>?_)<|λad=>?_
 ·exact absurd rfl ad
 refine e9 (Ac fld43_2 C)<|e9 (A7 ty22) ?_
 refine e9 (B5 (α:=Int) (xs:=Z) Ab C<|A6 hm)<|e9 (Ac fld43_2 C)<|e9 (A7 ty22) ?_
 refine e9 (B5 (α:=Int) (xs:=Z) Ab C<|A6 M)<|e9 (Bn C C)<|Gr (Bd C C)<|Ad<|Am (S3 27 3 2 C C C)<|A8 C (λaa=>?_)<|λaa=>?_
 ·exact absurd rfl aa
 refine Aw<|Ah<|Ap<|Af<|Ga C<|Ad<|A0<|B1 (σ:=Nat) (λs=>([(2,.pointer<|some ⟨b1,0,none⟩),(3,.pointer<|some ⟨b2,0,none⟩),(5,e7 ((s:Nat):Int))]:Env)) (λs=>e8 b2 [e7 nd,vb,e7 c,ub] 43::e8 b1 [e7 nd,va,e7 c,ua] 43::I) (λs=>(s<=Z.length)) (λs=>Z.length - s) 0 (show ((0:Nat)<=Z.length) from om) (Aa C<|Aa C<|Aa Cd Bl) Bf ?_
 rintro k hp
 have hk:=hp
 refine Ap<|Af<|Gm C<|Gf fld43_2 C<|Gl ty22 ?_
 refine Gr (B5 (α:=Int) (xs:=Z) Ab C<|A6 hm)<|Gr (Bb C C)<|Ad<|A8 C (λai=>?_)<|λai=>?_
 ·refine Aw (Ah<|Ap<|A0<|Ap<|Bq mixed<|Ee 11<|Dr 0 C (Ac fld43_2 C)<|Dr 1 C (A7 ty22) ?_)
  refine Dr 2 C (Ai C)<|Dr 3 C (Az (α:=Int) (xs:=Z) Ab ef C C (A6 hm) om om)<|Dr 4 C (Bw (xs:=Z) ef C (A6 hm) om om)<|Dr 5 C (Ac fld43_2 C)<|Dr 6 C (A7 ty22) ?_
  refine Dr 7 C (Ai C)<|Dr 8 C (Az (α:=Int) (xs:=Z) Ab ef C C (A6 M) om om)<|Dr 9 C (Bw (xs:=Z) ef C (A6 M) om om)<|Dr 10 C (Bn C C)<|Dz<|Ah<|Am (S4 45 2 3 5 C C C C)<|A8 C (λae=>?_)<|λae=>?_
  ·exact absurd rfl ae
  exact Aw<|Al<|Ah<|Au<|Gm C<|Gr (Rad C C)<|Ga C<|Bo<|Cf ((k+1)) om
 exact Bx<|Ao<|Ao<|A9<|Ah<|Af<|Ga C<|Ad<|Ay<|A1 C C I Av ⟨by first|rfl|(rw [decide_eq_true rfl])|(rw [decide_eq_true ⟨rfl,rfl⟩])|(simp;done),rfl⟩
theorem Same30_ok{w:Int}(hl:Sl κ I va es)(hm:Sl κ I ua Z)(ai:Sl κ I vb es)(M:Sl κ I ub Z):eu prog κ 78 [.agg #[e7 nd,va,e7 w,e7 c,ua],.agg #[e7 nd,vb,e7 w,e7 c,ub]] I (λr J=>r = .bool true/\I=J):=by
 refine B9 hm.le λak=>?_
 refine Ce2 Tryz.func78 C C ?_
 refine Af<|Ge1 (Bc (cs:=[_,_,_,_,_]) C C C) λb1=>Ge1 (Bc (cs:=[_,_,_,_,_]) C C C) λb2=>Ga C<|Ad<|Ap<|Af<|Gf fld45_0 C<|Gl2 ty38 ?_
 refine Gf fld45_0 C<|Gl2 ty38 ?_
 refine Gc0 (Aj c_ C C<|Same03_ok (A6 hl)<|A6 ai) ?_
 refine Gr (Ea C)<|Gm C<|Br (d:=12) C (λaa=>?_)<|λaa=>?_
 ·exact absurd ⟨rfl,rfl⟩ aa
 refine e9 (Ac fld45_1 C)<|e9 (A7 ef) ?_
 refine e9 (Ac fld45_1 C)<|e9 (A7 ef) ?_
 refine e9 (Bn C C)<|Gr (Bd C C)<|Gm C<|Br (d:=19) C (λab=>?_)<|λab=>?_
 ·exact absurd rfl ab
 refine e9 (Ac fld45_2 C)<|e9 (A7 ef) ?_
 refine e9 (Ac fld45_2 C)<|e9 (A7 ef) ?_
 refine e9 (Bn C C)<|Gr (Bd C C)<|Gm C<|Br (d:=26) C (λah=>?_)<|λah=>?_
 ·exact absurd rfl ah
 refine e9 (Ac fld45_3 C)<|e9 (A7 ty22) ?_
 refine e9 (B5 (α:=Int) (xs:=Z) Ab C<|A6 hm)<|e9 (Ac fld45_3 C)<|e9 (A7 ty22) ?_
 refine e9 (B5 (α:=Int) (xs:=Z) Ab C<|A6 M)<|e9 (Bn C C)<|Gr (Bd C C)<|Ad<|Am (S3 34 3 2 C C C)<|A8 C (λad=>?_)<|λad=>?_
 ·exact absurd rfl ad
 refine Aw<|Ah<|Ap<|Af<|Ga C<|Ad<|A0<|B1 (σ:=Nat) (λs=>([(2,.pointer<|some ⟨b1,0,none⟩),(3,.pointer<|some ⟨b2,0,none⟩),(5,e7 ((s:Nat):Int))]:Env)) (λs=>e8 b2 [e7 nd,vb,e7 w,e7 c,ub] 45::e8 b1 [e7 nd,va,e7 w,e7 c,ua] 45::I) (λs=>(s<=Z.length)) (λs=>Z.length - s) 0 (show ((0:Nat)<=Z.length) from om) (Aa C<|Aa C<|Aa Cd Bl) Bf ?_
 rintro k hp
 have hk:=hp
 refine Ap<|Af<|Gm C<|Gf fld45_3 C<|Gl ty22 ?_
 refine Gr (B5 (α:=Int) (xs:=Z) Ab C<|A6 hm)<|Gr (Bb C C)<|Ad<|A8 C (λaj=>?_)<|λaj=>?_
 ·refine Aw (Ah<|Ap<|A0<|Ap<|Bq mixed<|Ee 11<|Dr 0 C (Ac fld45_3 C)<|Dr 1 C (A7 ty22) ?_)
  refine Dr 2 C (Ai C)<|Dr 3 C (Az (α:=Int) (xs:=Z) Ab ef C C (A6 hm) om om)<|Dr 4 C (Bw (xs:=Z) ef C (A6 hm) om om)<|Dr 5 C (Ac fld45_3 C)<|Dr 6 C (A7 ty22) ?_
  refine Dr 7 C (Ai C)<|Dr 8 C (Az (α:=Int) (xs:=Z) Ab ef C C (A6 M) om om)<|Dr 9 C (Bw (xs:=Z) ef C (A6 M) om om)<|Dr 10 C (Bn C C)<|Dz<|Ah<|Am (S4 52 2 3 5 C C C C)<|A8 C (λae=>?_)<|λae=>?_
  ·exact absurd rfl ae
  exact Aw<|Al<|Ah<|Au<|Gm C<|Gr (Rad C C)<|Ga C<|Bo<|Cf ((k+1)) om
 exact Bx<|Ao<|Ao<|A9<|Ah<|Af<|Ga C<|Ad<|Ay<|A1 C C I Av ⟨by first|rfl|(rw [decide_eq_true rfl])|(rw [decide_eq_true ⟨rfl,rfl⟩])|(simp;done),rfl⟩
theorem SameK_base{kd wd mo bd:Int}{k:EnS}{v M:KpV}(hF:KpF κ I nd k v)(Z:KpF κ I nd k M):eu prog κ 33 [.agg #[e7 kd,e7 wd,e7 mo,e7 bd,e7 (k.b.lt),e7 (k.b.mr),.slice v.w.a k.b.ws.length v.w.c,e7 nd,.slice v.l.a k.S.length v.l.c,e7 nd,.slice v.p.e1.a (edgesK k.S).length v.p.e1.c,.slice v.p.n1.a (coreN nd (edgesK k.S)).length v.p.n1.c,e7 nd,.slice v.p.e2.a (edgesK k.S).length v.p.e2.c,.slice v.p.n2.a (trussG nd (edgesK k.S)).length v.p.n2.c,e7 nd,.slice v.p.e3.a (edgesK k.S).length v.p.e3.c,e7 (triS nd (edgesK k.S) / 3),.slice v.p.n3.a (triL nd (edgesK k.S)).length v.p.n3.c,e7 nd,.slice v.p.e4.a (edgesK k.S).length v.p.e4.c,e7 (wedgeC nd (edgesK k.S)),e7 (quadC nd (edgesK k.S)),.slice v.p.n4.a (quadL nd (edgesK k.S)).length v.p.n4.c,e7 (k.tm)],.agg #[e7 kd,e7 wd,e7 mo,e7 bd,e7 (k.b.lt),e7 (k.b.mr),.slice M.w.a k.b.ws.length M.w.c,e7 nd,.slice M.l.a k.S.length M.l.c,e7 nd,.slice M.p.e1.a (edgesK k.S).length M.p.e1.c,.slice M.p.n1.a (coreN nd (edgesK k.S)).length M.p.n1.c,e7 nd,.slice M.p.e2.a (edgesK k.S).length M.p.e2.c,.slice M.p.n2.a (trussG nd (edgesK k.S)).length M.p.n2.c,e7 nd,.slice M.p.e3.a (edgesK k.S).length M.p.e3.c,e7 (triS nd (edgesK k.S) / 3),.slice M.p.n3.a (triL nd (edgesK k.S)).length M.p.n3.c,e7 nd,.slice M.p.e4.a (edgesK k.S).length M.p.e4.c,e7 (wedgeC nd (edgesK k.S)),e7 (quadC nd (edgesK k.S)),.slice M.p.n4.a (quadL nd (edgesK k.S)).length M.p.n4.c,e7 (k.tm)]] I (λr J=>r = .bool true/\I=J):=by
 refine Ce2 Tryz.func33 C C ?_
 refine Af<|Ge1 (Bc (cs:=[_,_,_,_,_,_,_,_,_,_,_,_,_,_,_,_,_,_,_,_,_,_,_,_,_]) C C C) λb1=>Ge1 (Bc (cs:=[_,_,_,_,_,_,_,_,_,_,_,_,_,_,_,_,_,_,_,_,_,_,_,_,_]) C C C) λb2=>Ga C<|Ad<|Af<|Gf fld47_0 C<|Gl3 ty29 ?_
 refine Gf fld47_0 C<|Gl3 ty29 ?_
 refine Gr (Runs.eqlT (α:=Wn3) (a:=(⟨kd,wd,mo⟩:Wn3)) (b:=(⟨kd,wd,mo⟩:Wn3)) eqt29 C C)<|Gm C<|Br (d:=10) C (λab=>?_)<|λab=>?_
 ·refine e9 (Ac fld47_1 C) (e9 (A5 (vs:=[_,_,_,_]) ty32) ?_)
  refine e9 (Ac fld47_1 C)<|e9 (A5 (vs:=[_,_,_,_]) ty32) ?_
  refine Dm (Ch C C C) (Aj c_ C C<|SameB_ok (Bv hF.w<|Ce (κ:=κ)<|by repeat (first|exact hH|exact Bu _|apply Bt|apply Ci|apply B0))<|Bv Z.w<|Ce (κ:=κ)<|by repeat (first|exact hH|exact Bu _|apply Bt|apply Ci|apply B0)) ?_
  rintro _ _ ⟨_,_,⟨rfl,rfl⟩,rfl,rfl⟩
  refine Gr (A3 C C)<|Gm C<|e9 (Ac fld47_2 C)<|e9 (A5 (vs:=[_,_]) ty35) ?_
  refine e9 (Ac fld47_2 C)<|e9 (A5 (vs:=[_,_]) ty35) ?_
  refine Dm (Ch C C C) (Aj c_ C C<|Same5_ok (Bv hF.l<|Ce (κ:=κ)<|by repeat (first|exact hH|exact Bu _|apply Bt|apply Ci|apply B0))<|Bv Z.l<|Ce (κ:=κ)<|by repeat (first|exact hH|exact Bu _|apply Bt|apply Ci|apply B0)) ?_
  rintro _ _ ⟨_,_,⟨rfl,rfl⟩,rfl,rfl⟩
  refine Gr (A3 C C)<|Gm C<|Br (d:=24) C (λaa=>?_)<|λaa=>?_
  ·refine e9 (Ac fld47_3 C) (e9 (A5 (vs:=[_,_,_]) ty40) ?_)
   refine e9 (Ac fld47_3 C)<|e9 (A5 (vs:=[_,_,_]) ty40) ?_
   refine Dm (Ch C C C) (Aj c_ C C<|Same11_ok (Bv hF.p.e1<|Ce (κ:=κ)<|by repeat (first|exact hH|exact Bu _|apply Bt|apply Ci|apply B0)) (Bv hF.p.n1<|Ce (κ:=κ)<|by repeat (first|exact hH|exact Bu _|apply Bt|apply Ci|apply B0)) (Bv Z.p.e1<|Ce (κ:=κ)<|by repeat (first|exact hH|exact Bu _|apply Bt|apply Ci|apply B0))<|Bv Z.p.n1<|Ce (κ:=κ)<|by repeat (first|exact hH|exact Bu _|apply Bt|apply Ci|apply B0)) ?_
   rintro _ _ ⟨_,_,⟨rfl,rfl⟩,rfl,rfl⟩
   refine Gr (A3 C C)<|Gm C<|e9 (Ac fld47_4 C)<|e9 (A5 (vs:=[_,_,_]) ty41) ?_
   refine e9 (Ac fld47_4 C)<|e9 (A5 (vs:=[_,_,_]) ty41) ?_
   refine Dm (Ch C C C) (Aj c_ C C<|Same13_ok (Bv hF.p.e2<|Ce (κ:=κ)<|by repeat (first|exact hH|exact Bu _|apply Bt|apply Ci|apply B0)) (Bv hF.p.n2<|Ce (κ:=κ)<|by repeat (first|exact hH|exact Bu _|apply Bt|apply Ci|apply B0)) (Bv Z.p.e2<|Ce (κ:=κ)<|by repeat (first|exact hH|exact Bu _|apply Bt|apply Ci|apply B0))<|Bv Z.p.n2<|Ce (κ:=κ)<|by repeat (first|exact hH|exact Bu _|apply Bt|apply Ci|apply B0)) ?_
   rintro _ _ ⟨_,_,⟨rfl,rfl⟩,rfl,rfl⟩
   refine Gr (A3 C C)<|Gm C<|e9 (Ac fld47_5 C)<|e9 (A5 (vs:=[_,_,_,_]) ty43) ?_
   refine e9 (Ac fld47_5 C)<|e9 (A5 (vs:=[_,_,_,_]) ty43) ?_
   refine Dm (Ch C C C) (Aj c_ C C<|Same29_ok (Bv hF.p.e3<|Ce (κ:=κ)<|by repeat (first|exact hH|exact Bu _|apply Bt|apply Ci|apply B0)) (Bv hF.p.n3<|Ce (κ:=κ)<|by repeat (first|exact hH|exact Bu _|apply Bt|apply Ci|apply B0)) (Bv Z.p.e3<|Ce (κ:=κ)<|by repeat (first|exact hH|exact Bu _|apply Bt|apply Ci|apply B0))<|Bv Z.p.n3<|Ce (κ:=κ)<|by repeat (first|exact hH|exact Bu _|apply Bt|apply Ci|apply B0)) ?_
   rintro _ _ ⟨_,_,⟨rfl,rfl⟩,rfl,rfl⟩
   refine Gr (A3 C C)<|Gm C<|e9 (Ac fld47_6 C)<|e9 (A5 (vs:=[_,_,_,_,_]) ty45) ?_
   refine e9 (Ac fld47_6 C)<|e9 (A5 (vs:=[_,_,_,_,_]) ty45) ?_
   refine Dm (Ch C C C) (Aj c_ C C<|Same30_ok (Bv hF.p.e4<|Ce (κ:=κ)<|by repeat (first|exact hH|exact Bu _|apply Bt|apply Ci|apply B0)) (Bv hF.p.n4<|Ce (κ:=κ)<|by repeat (first|exact hH|exact Bu _|apply Bt|apply Ci|apply B0)) (Bv Z.p.e4<|Ce (κ:=κ)<|by repeat (first|exact hH|exact Bu _|apply Bt|apply Ci|apply B0))<|Bv Z.p.n4<|Ce (κ:=κ)<|by repeat (first|exact hH|exact Bu _|apply Bt|apply Ci|apply B0)) ?_
   rintro _ _ ⟨_,_,⟨rfl,rfl⟩,rfl,rfl⟩
   refine Gr (A3 C C)<|Gm C<|e9 (Ac fld47_7 C)<|e9 (A7 ef) ?_
   refine e9 (Ac fld47_7 C)<|e9 (A7 ef) ?_
   exact e9 (Bs C C)<|Gr (A3 C C)<|Ga C<|Ad<|Am (S1 4 C)<|Ay<|A1 C C I Av ⟨by first|rfl|(rw [decide_eq_true rfl])|(rw [decide_eq_true ⟨rfl,rfl⟩])|(simp;done),rfl⟩
  exact absurd ⟨rfl,rfl⟩ aa
 exact absurd rfl ab
theorem SameK_ok{kd wd mo bd:Int}{k k2:EnS}{v Z:KpV}(e:k=k2)(hF:KpF κ I nd k v)(M:KpF κ I nd k2 Z):eu prog κ 33 [.agg #[e7 kd,e7 wd,e7 mo,e7 bd,e7 (k.b.lt),e7 (k.b.mr),.slice v.w.a k.b.ws.length v.w.c,e7 nd,.slice v.l.a k.S.length v.l.c,e7 nd,.slice v.p.e1.a (edgesK k.S).length v.p.e1.c,.slice v.p.n1.a (coreN nd (edgesK k.S)).length v.p.n1.c,e7 nd,.slice v.p.e2.a (edgesK k.S).length v.p.e2.c,.slice v.p.n2.a (trussG nd (edgesK k.S)).length v.p.n2.c,e7 nd,.slice v.p.e3.a (edgesK k.S).length v.p.e3.c,e7 (triS nd (edgesK k.S) / 3),.slice v.p.n3.a (triL nd (edgesK k.S)).length v.p.n3.c,e7 nd,.slice v.p.e4.a (edgesK k.S).length v.p.e4.c,e7 (wedgeC nd (edgesK k.S)),e7 (quadC nd (edgesK k.S)),.slice v.p.n4.a (quadL nd (edgesK k.S)).length v.p.n4.c,e7 (k.tm)],.agg #[e7 kd,e7 wd,e7 mo,e7 bd,e7 (k2.b.lt),e7 (k2.b.mr),.slice Z.w.a k2.b.ws.length Z.w.c,e7 nd,.slice Z.l.a k2.S.length Z.l.c,e7 nd,.slice Z.p.e1.a (edgesK k2.S).length Z.p.e1.c,.slice Z.p.n1.a (coreN nd (edgesK k2.S)).length Z.p.n1.c,e7 nd,.slice Z.p.e2.a (edgesK k2.S).length Z.p.e2.c,.slice Z.p.n2.a (trussG nd (edgesK k2.S)).length Z.p.n2.c,e7 nd,.slice Z.p.e3.a (edgesK k2.S).length Z.p.e3.c,e7 (triS nd (edgesK k2.S) / 3),.slice Z.p.n3.a (triL nd (edgesK k2.S)).length Z.p.n3.c,e7 nd,.slice Z.p.e4.a (edgesK k2.S).length Z.p.e4.c,e7 (wedgeC nd (edgesK k2.S)),e7 (quadC nd (edgesK k2.S)),.slice Z.p.n4.a (quadL nd (edgesK k2.S)).length Z.p.n4.c,e7 (k2.tm)]] I λr J=>r = .bool true/\I=J:=by
 subst e;exact SameK_base hF M
end Go.Sl
