/- A part of the proofs of statements of this seat: contracts of functions, and the plain laws that they lean on. No conditions. -/
import Derived.Test.YtfkcohmipjhfcaaGreatDoorT15
set_option linter.unusedVariables false
set_option linter.unusedSimpArgs false
set_option linter.unusedSectionVars false
/- The links at a time depend on the events up to it alone. No conditions. -/
namespace Go.Sl
theorem up_take {es : List Ev} {t : Int} : ∀ {k : Nat}, (∀ i : Nat, i < k → i < es.length → (at_ es (i : Int)).tm ≤ t) → (∀ i : Nat, k ≤ i → i < es.length → t < (at_ es (i : Int)).tm) → es.filter (upT t) = es.take k := by
 induction es with
 | nil => intro k _ _; simp
 | cons e es ih =>
  intro k h1 h2
  have sh : ∀ i : Nat, at_ (e :: es) ((i + 1 : Nat) : Int) = at_ es (i : Int) := fun i => by rw [at_nat, at_nat]; rfl
  cases k with
  | zero =>
   rw [List.take_zero]
   refine List.filter_eq_nil_iff.2 fun y hy hy2 => ?_
   obtain ⟨i, hi, rfl⟩ := mem_at hy
   have := h2 i (Nat.zero_le _) hi
   have := of_decide_eq_true hy2
   omega
  | succ k =>
   have h0 := h1 0 om (by simp)
   rw [List.take_succ_cons, List.filter_cons_of_pos (by unfold upT; exact decide_eq_true h0), ih (k := k) (fun i hi hl => by rw [← sh]; exact h1 (i + 1) om (by simpa using hl)) fun i hi hl => by rw [← sh]; exact h2 (i + 1) om (by simpa using hl)]
section
variable {nd kd wd mo t : Int} {es : List Ev}
theorem StOk.cutAt (h : StOk nd es) (t : Int) : ∃ k, k ≤ es.length ∧ (∀ i : Nat, i < k → (at_ es (i : Int)).tm ≤ t) ∧ (∀ i : Nat, k ≤ i → i < es.length → t < (at_ es (i : Int)).tm) := by
 have hpw := h.pw
 rcases split_up hpw t with hall | ⟨e, q, he, hTe⟩
 ·exact ⟨es.length, Nat.le_refl _, fun i hi => hall _ (Ch om om), fun i h1 h2 => by omega⟩
 ·obtain ⟨F, hF⟩ : ∃ F, es.filter (upT t) = F := ⟨_, rfl⟩
  have hFm : ∀ y ∈ F, y.tm ≤ t := fun y hy => by rw [← hF] at hy; exact of_decide_eq_true (List.mem_filter.1 hy).2
  rw [hF] at he
  clear hF
  subst he
  have hl : (F ++ e :: q).length = F.length + (q.length + 1) := by rw [List.length_append, List.length_cons]
  obtain ⟨_, hq, _⟩ := List.pairwise_append.1 hpw
  have hq1 := (List.pairwise_cons.1 hq).1
  refine ⟨F.length, by omega, fun i hi => ?_, fun i h1 h2 => ?_⟩
  ·rw [Dp _ i om, List.getElem_append_left hi]
   exact hFm _ (List.getElem_mem _)
  ·rw [Dp _ i h2, List.getElem_append_right h1]
   have hm : (e :: q)[i - F.length]'(by rw [List.length_cons]; omega) ∈ e :: q := List.getElem_mem _
   rcases List.mem_cons.1 hm with hm | hm
   ·rw [hm]; exact hTe
   ·have := hq1 _ hm; omega
theorem age_at (h : StOk nd es) (hw : 1 ≤ wd) {k : Nat} (hk : k ≤ es.length) (h1 : ∀ i : Nat, i < k → (at_ es (i : Int)).tm ≤ t) (h2 : ∀ i : Nat, k ≤ i → i < es.length → t < (at_ es (i : Int)).tm) (h0 : 0 ≤ t) :
  ∀ m : Nat, k + m ≤ es.length → (linksL ((slideS 2 wd mo (es.take (k + m))).2.filter (upT t))).filter (aliveB wd t) = ((es.take k).foldl stepL []).filter (aliveB wd t)
 | 0, _ => by
  have hB := BehB.all (mo := mo) h hw k hk
  have hlast : lastT es k ≤ t := by
   unfold lastT
   split
   ·exact h0
   ·have := h1 (k - 1) om
    rwa [show ((k - 1 : Nat) : Int) = (k : Int) - 1 by omega] at this
  rw [Nat.add_zero]
  have e : (slideS 2 wd mo (es.take k)).2.filter (upT t) = (slideS 2 wd mo (es.take k)).2 := List.filter_eq_self.2 fun y hy => decide_eq_true (by have := hB.le y hy; omega)
  rw [e]
  have e2 : linksL (slideS 2 wd mo (es.take k)).2 = (slideS 2 wd mo (es.take k)).1 := hB.st.symm
  rw [e2, hB.al, alive_two hlast]
 | m + 1, hm => by
  have ih := age_at h hw hk h1 h2 h0 m om
  have hB := BehB.all (mo := mo) h hw (k + m) om
  have hfe := h.fit (k + m) om
  have hto := h.asc (k + m) om
  have hte := h2 (k + m) om om
  rw [show k + (m + 1) = k + m + 1 by omega, slideS_succ om]
  have hl0 : 0 ≤ lastT es (k + m) := by
   unfold lastT
   split
   ·exact Int.le_refl _
   ·have := (h.fit (k + m - 1) om).tm.1
    rwa [show ((k + m - 1 : Nat) : Int) = ((k + m : Nat) : Int) - 1 by omega] at this
  generalize hs : slideS 2 wd mo (es.take (k + m)) = s at ih hB ⊢
  generalize at_ es ((k + m : Nat) : Int) = e at hfe hto hte ⊢
  obtain ⟨xs, out⟩ := s
  have hA : AgB nd wd (lastT es (k + m)) e.tm (2 * (k + m)) ((es.take (k + m)).foldl stepL []) xs out :=
   ⟨hB.inv, hB.st, hB.fit, hB.asc, fun e' he' => by have := hB.le e' he'; omega, fun e' he' x hx => by have h3 := hB.le e' he'; have h4 := hB.inv.al rfl x hx; omega, by
    have := hB.al
    simp only at this
    rw [this, alive_two hto], hB.sum⟩
  have hev : evStep 2 wd mo (xs, out) e = (stepL (ageL wd mo e.tm xs out).1 e, (ageL wd mo e.tm xs out).2 ++ [e]) := rfl
  rw [hev]
  obtain ⟨⟨_, h6⟩, _⟩ := ageL_ind (mo := mo) (T := e.tm) (P := fun xs out => AgB nd wd (lastT es (k + m)) e.tm (2 * (k + m)) ((es.take (k + m)).foldl stepL []) xs out ∧ (linksL (out.filter (upT t))).filter (aliveB wd t) = ((es.take k).foldl stepL []).filter (aliveB wd t))
   (fun xs out hs hP => ⟨hP.1.step hl0 hfe.tm.2 hs, by
    obtain ⟨hAg, hE⟩ := hP
    have hg : ∀ y ∈ goneL 2 wd mo (minT xs + wd) xs, y.tm = minT xs + wd := fun y hy => (gone_mem hy).2
    rw [List.filter_append]
    by_cases hmt : minT xs + wd ≤ t
    ·have ho : out.filter (upT t) = out := List.filter_eq_self.2 fun y hy => by
      obtain ⟨⟨x0, hx0, e0⟩, _⟩ := minT_spec hs.1
      have := hAg.bef y hy x0 hx0
      exact decide_eq_true om
     have hgo : (goneL 2 wd mo (minT xs + wd) xs).filter (upT t) = goneL 2 wd mo (minT xs + wd) xs := List.filter_eq_self.2 fun y hy => decide_eq_true (by rw [hg y hy]; exact hmt)
     rw [ho] at hE
     rw [ho, hgo, linksL_app, show linksL out = xs from hAg.st.symm, gone_steps hAg.inv.val, inW_alive, alive_two hmt]
     rw [show linksL out = xs from hAg.st.symm] at hE
     exact hE
    ·have hgo : (goneL 2 wd mo (minT xs + wd) xs).filter (upT t) = [] := List.filter_eq_nil_iff.2 fun y hy hy2 => by have := of_decide_eq_true hy2; rw [hg y hy] at this; exact hmt this
     rw [hgo, List.append_nil]; exact hE⟩) xs.length xs out (Nat.le_refl _) ⟨hA, ih⟩
  simp only
  rw [List.filter_append, List.filter_cons_of_neg (by unfold upT; simp; omega), List.filter_nil, List.append_nil]
  exact h6
theorem cnt_at (h : StOk nd es) {k : Nat} (hk : k ≤ es.length) (h1 : ∀ i : Nat, i < k → (at_ es (i : Int)).tm ≤ t) (h2 : ∀ i : Nat, k ≤ i → i < es.length → t < (at_ es (i : Int)).tm) (h0 : 0 ≤ t) :
  ∀ m : Nat, k + m ≤ es.length → (slideS 3 0 mo (es.take (k + m))).2.filter (upT t) = (slideS 3 0 mo (es.take k)).2
 | 0, _ => by
  have hlast : lastT es k ≤ t := by
   unfold lastT
   split
   ·exact h0
   ·have := h1 (k - 1) om
    rwa [show ((k - 1 : Nat) : Int) = (k : Int) - 1 by omega] at this
  have hB := (slide3_asc (mo := mo) h k hk).2
  rw [Nat.add_zero]
  exact List.filter_eq_self.2 fun y hy => decide_eq_true (by have := hB y hy; omega)
 | m + 1, hm => by
  have ih := cnt_at h hk h1 h2 h0 m om
  have hte := h2 (k + m) om om
  rw [show k + (m + 1) = k + m + 1 by omega, slideS_succ om, evStep3]
  generalize slideS 3 0 mo (es.take (k + m)) = s at ih ⊢
  generalize at_ es ((k + m : Nat) : Int) = e at hte ⊢
  have hgo : (goneL 3 0 mo e.tm (stepL s.1 e)).filter (upT t) = [] := List.filter_eq_nil_iff.2 fun y hy hy2 => by have := of_decide_eq_true hy2; rw [(gone_mem hy).2] at this; omega
  simp only
  rw [List.filter_append, List.filter_append, List.filter_cons_of_neg (by unfold upT; simp; omega), List.filter_nil, List.append_nil, hgo, List.append_nil]
  exact ih
theorem atK_up (h : HistOk nd kd wd mo es) (ht : 0 ≤ t ∧ t ≤ 1048576) :
  atK kd wd mo es t = if kd = 2 then ((es.filter (upT t)).foldl stepL []).filter (aliveB wd t) else if kd = 3 then linksL (slideS 3 0 mo (es.filter (upT t))).2 else (es.filter (upT t)).foldl stepL [] := by
 obtain ⟨k, hk, h1, h2⟩ := h.st.cutAt t
 have hE : es.filter (upT t) = es.take k := up_take (fun i hi _ => h1 i hi) h2
 have he : es.take (k + (es.length - k)) = es := List.take_of_length_le om
 rw [atK_ref h ht, hE]
 unfold refK
 rcases checkW_cases h.win with ⟨rfl, rfl, rfl⟩ | ⟨rfl, hw, rfl⟩ | ⟨rfl, rfl, hm⟩
 ·rw [if_neg dc, if_neg dc, if_neg dc, all_same, hE]; rfl
 ·rw [if_pos rfl, if_pos rfl]
  have := age_at (mo := 0) (t := t) h.st hw.1 hk h1 h2 ht.1 (es.length - k) om
  rw [he] at this
  exact this
 ·rw [if_neg dc, if_neg dc, if_pos rfl]
  have := cnt_at (mo := mo) (t := t) h.st hk h1 h2 ht.1 (es.length - k) om
  rw [he] at this
  rw [this]
theorem atK_early (h : HistOk nd kd wd mo es) (h' : HistOk nd kd wd mo (es.filter (upT t))) (ht : 0 ≤ t ∧ t ≤ 1048576) : atK kd wd mo (es.filter (upT t)) t = atK kd wd mo es t := by
 rw [atK_up h ht, atK_up h' ht, List.filter_filter]
 have : (fun a => upT t a && upT t a) = upT t := by funext a; exact Bool.and_self _
 rw [this]
end
end Go.Sl
namespace Go.Sl
open Go.Proofs
set_option maxRecDepth 4000
section
variable {P : Program} {κ : Ctx} {N : Frm} {L : Env} {J : List Item} {d : Option Tmp} {ty : TypeId} {ps : String} {af : Array Edge} {gd : Option (Nat × Bool)}
theorem Runs.eqC {x y : Operand} {T U : TypeId} {v u : Value} {b : Bool} (hg : ∀ w : World, (eqGuard .eql T x y v u).run P w = .ok () w) (hT : ∀ w : World, (binOp .eql T v u).run P w = .ok (.bool b) w) (hx : evalO L x = some v) (hy : evalO L y = some u) :
  Runs P κ N ⟨d, .binOp .eql T x y U, ty, ps, af, gd⟩ L J (.bool b) := fun a w ha _ => by
 simp only [execOp, ha.eval hx, ha.eval hy]
 simp [hg w, hT w]
end
theorem QOf8_ok {κ : Ctx} {I : List Item}  :
    CallS Tryz.prog κ 176 [I64 (8)] I (fun r J => r = .agg #[.bool false, .bool false, .bool false, .bool false, .bool true] ∧ I = J) := by
 refine Ce1 Tryz.func176 rfl rfl ?_
 refine Ah (Ge1 (A4 ty220 rfl) fun b1 => Af (Ah (Ge1 (A4 ty220 rfl) fun b2 => Af (Ax (Ah (Gm rfl (Af (A5 (Ax (A5 (Ax (A5 (Ax (A5 (Ax (A5 (Ax (A5 (Ax (A5 (Ax (A5 (Ax (Ax (Ah (Gr (Bf rfl rfl) (Ga rfl (Af (A7 rfl (fun c5 => ?_) (fun c5 => ?_))))))))))))))))))))))))))))))
 ·exact absurd c5 dc
 ·refine A0 (Ai (Ax (Ah (Gr (Bf rfl rfl) (Ga rfl (Af (A7 rfl (fun c7 => ?_) (fun c7 => ?_))))))))
  ·exact absurd c7 dc
  ·refine A0 (Ai (Ax (Ah (Gr (Bf rfl rfl) (Ga rfl (Af (A7 rfl (fun c9 => ?_) (fun c9 => ?_))))))))
   ·exact absurd c9 dc
   ·refine A0 (Ai (Ax (Ax (Ah (Gr (Bf rfl rfl) (Ga rfl (Af (A7 rfl (fun c11 => ?_) (fun c11 => ?_)))))))))
    ·exact absurd c11 dc
    ·refine A2 (Gr (Bf rfl rfl) (Ga rfl (Af (Ar (S4 11 4 3 2 rfl rfl rfl rfl) (A7 rfl (fun c11 => ?_) (fun c11 => ?_))))))
     ·exact absurd c11 dc
     ·refine A0 (Ai (Ax (Ax (Ah (Gr (Bf rfl rfl) (Ga rfl (Af (A7 rfl (fun c14 => ?_) (fun c14 => ?_)))))))))
      ·exact absurd c14 dc
      ·refine Ah (Gr (Bf rfl rfl) (Ga rfl (Af (A7 rfl (fun c14 => ?_) (fun c14 => ?_)))))
       ·exact absurd c14 dc
       ·refine A2 (Gr (Bf rfl rfl) (Ga rfl (Af (A7 rfl (fun c14 => ?_) (fun c14 => ?_)))))
        ·exact absurd c14 dc
        ·refine A0 (Ai (Ax (Ah (Gr (Bf rfl rfl) (Ga rfl (Af (A7 rfl (fun c18 => ?_) (fun c18 => ?_))))))))
         ·refine Bu (As (As (Dt rfl (As (Dt rfl (As (Dt rfl (As (Dt rfl (As (Dt rfl (As (Ba (Ai (Ah (Gf fld220_4 rfl (Ge0 (Da (cs := [_, _, _, _, _]) (vs := [_]) (cs' := [_, _, _, _, _]) ty4) ?_)))))))))))))))))
          refine Af (Bu (Dt rfl (As (Ba (Ai (Ah (Gr (Bk (vs := [_, _, _, _, _]) ty220) ?_)))))))
          refine Ge0 (Es5_5 ty220) ?_
          exact Af (Ar (S1 2 rfl) (Ay (Dh rfl ty220 rfl mm rfl (I) Az ⟨rfl, rfl⟩)))
         ·exact absurd rfl c18
theorem QCheck8_ok {κ : Ctx} {I : List Item} {n num den : Int} (hf : FrV ⟨num, den⟩) :
    CallS Tryz.prog κ 105 [.agg #[I64 (8), I64 (0), I64 (0), I64 (0), .slice none 0 0, I64 (num), I64 (den)], I64 (n)] I (fun r J => r = I64 0 ∧ I = J) := by
 have hn0 : 0 ≤ num := hf.n0
 refine Ce2 Tryz.func105 rfl rfl ?_
 refine Ah (Ge1 (Bd (cs := [_, _, _, _, _, _, _]) rfl rfl rfl) fun b1 => Ga rfl (Af (Ah (Gf fld71_0 rfl (Gl ty3 ?_)))))
 refine G.e (Ap call176 rfl rfl QOf8_ok) ?_
 rintro _ _ ⟨_, _, ⟨rfl, rfl⟩, rfl, rfl⟩
 refine Ge1 (A4 ty220 rfl) fun b2 => Ge0 (Es5_5 ty220) ?_
 refine Af (Ax (A5 (Ah (Gr (Bk (vs := [_, _, _, _, _]) ty220) ?_))))
 refine Gr (Bg (cells := [_, _, _, _, _]) ty220 Tryz.underlying220 pl220 rfl rfl) (Gr (Runs.eqC (fun w => by kernel_rfl) (fun w => by kernel_rfl) rfl rfl) (Ga rfl (Af (C2 rfl (Ah (Gf fld220_0 rfl (Gl ty4 ?_)))))))
 refine Gm rfl (Gpo (Gpo (Gpo (Gpo (Gpu (Gpu (Gpu (Gpu (Gpo (Gr (Aj rfl rfl) (Gm rfl (Gro (Aa fld220_1 rfl) (Gro (Aq ty4) ?_)))))))))))))
 refine Gro (Ac rfl) (Gpo (Gpo (Gpo (Gpo (Gpo (Gpo (Gpo (Gro (Aj rfl rfl) (Gr (Aj rfl rfl) (Ga rfl (Af (Ar (S3 13 5 2 rfl rfl rfl) (C2 rfl (Ah (Gf fld220_3 rfl (Gl ty4 ?_))))))))))))))))
 refine Gm rfl (Gpo (Gpo (Gpo (Gpo (Gpu (Gpu (Gpu (Gpo (Gr (Aj rfl rfl) (Ga rfl (Af (Ar (S3 40 5 2 rfl rfl rfl) (C2 rfl (Ah (Gf fld220_2 rfl (Gl ty4 ?_))))))))))))))))
 refine Gm rfl (Gpo (Gpo (Gpo (Gpo (Gpu (Gpu (Gpu (Gpo (Gr (Aj rfl rfl) (Gm rfl (Gro (Aa fld220_4 rfl) (Gro (Aq ty4) ?_))))))))))))
 refine Gro (Ac rfl) (Gro (Aa fld71_5 rfl) (Gro (Bk (vs := [_, _]) ty40) ?_))
 refine Dv (Cc rfl rfl rfl) (Ap call89 rfl rfl (RatValid_ok (⟨num, den⟩ : Fr) hf)) ?_
 rintro _ _ ⟨_, _, ⟨rfl, rfl⟩, rfl, rfl⟩
 refine Gro (Cl rfl) (Gro (Ac rfl) (Gro (Aa fld71_5 rfl) (Gro (Aa fld40_0 rfl) (Gro (Aq ty3) ?_))))
 refine Gro (Bb rfl rfl) (Gro (Aj rfl rfl) (Gro (Al rfl rfl) (Gr (Aj rfl rfl) (Ga rfl (Af (Ar (S3 53 5 2 rfl rfl rfl) (A7 rfl (fun c53 => ?_) (fun c53 => ?_))))))))
 ·refine Ah (Ga rfl (Af (Ay (Au (Ad ?_)))))
  exfalso; first | omega | (exact absurd rfl asm) | (simp_all; done)
 ·refine Ah (Gf fld220_0 rfl (Gl ty4 ?_))
  refine Gr (Cl rfl) (Gm rfl (Gro (Aa fld71_1 rfl) (Gro (Aq ty3) ?_)))
  refine Gro (Be rfl rfl) (Gr (Al rfl rfl) (Gm rfl (A6 (d := 91) rfl (fun g91 => ?_) (fun g91 => ?_))))
  ·refine Gpo (Gpo (Gpo (Gpo (Gpu (Gpu (Gpu (Gpu (Gpo (Gr (Al rfl rfl) (Gm rfl (Gpo (Gpo (Gpo (Gpo (Gpu (Gpu (Gpu (Gpo (Gr (Al rfl rfl) (Gm rfl (Gpo (Gpo (Gpo (Gpo (Gpu (Gpu (Gpu (Gpo (Gr (Al rfl rfl) (Gm rfl (Gpo (Gpo (Gpo (Gpo (Gpu (Gpu (Gpu (Gpu (Gpo (Gr (Al rfl rfl) (Ga rfl (Af (Ar (S1 82 rfl) (B6 rfl (Ah (Ga rfl (Af (Ay (Au (Ad ?_))))))))))))))))))))))))))))))))))))))))))))))))))
   exfalso; first | omega | (exact absurd rfl asm) | (simp_all; done)
  ·refine Gro (Aa fld220_1 rfl) (Gro (Aq ty4) ?_)
   refine Gro (Cl rfl) (Gro (Ac rfl) (Gro (Aa fld71_4 rfl) (Gro (Aq ty22) ?_)))
   refine Gro (B2 Ao rfl) (Gro (Bt rfl rfl) (Gro (Al rfl rfl) (Gr (Aj rfl rfl) (Gm rfl (A6 (d := 102) rfl (fun g102 => ?_) (fun g102 => ?_))))))
   ·refine Gpo (Gpo (Gpo (Gpo (Gpu (Gpu (Gpu (Gpo (Gr (Al rfl rfl) (Gm rfl (Gpo (Gpo (Gpo (Gpo (Gpu (Gpu (Gpu (Gpo (Gr (Al rfl rfl) (Gm rfl (Gpo (Gpo (Gpo (Gpo (Gpu (Gpu (Gpu (Gpu (Gpo (Gr (Al rfl rfl) (Ga rfl (Af (Ar (S1 82 rfl) (B6 rfl (Ah (Ga rfl (Af (Ay (Au (Ad ?_)))))))))))))))))))))))))))))))))))))))
    exfalso; first | omega | (exact absurd rfl asm) | (simp_all; done)
   ·refine Gro (Aa fld220_3 rfl) (Gro (Aq ty4) ?_)
    refine Gro (Cl rfl) (Gro (Ac rfl) (Gro (Aa fld71_3 rfl) (Gro (Aq ty3) ?_)))
    refine Gro (Be rfl rfl) (Gro (Al rfl rfl) (Gr (Aj rfl rfl) (Gm rfl (A6 (d := 112) rfl (fun g112 => ?_) (fun g112 => ?_)))))
    ·refine Gpo (Gpo (Gpo (Gpo (Gpu (Gpu (Gpu (Gpo (Gr (Al rfl rfl) (Gm rfl (Gpo (Gpo (Gpo (Gpo (Gpu (Gpu (Gpu (Gpu (Gpo (Gr (Al rfl rfl) (Ga rfl (Af (Ar (S1 82 rfl) (B6 rfl (Ah (Ga rfl (Af (Ay (Au (Ad ?_)))))))))))))))))))))))))))))
     exfalso; first | omega | (exact absurd rfl asm) | (simp_all; done)
    ·refine Gro (Aa fld220_2 rfl) (Gro (Aq ty4) ?_)
     refine Gro (Cl rfl) (Gro (Ac rfl) (Gro (Aa fld71_2 rfl) (Gro (Aq ty3) ?_)))
     refine Gro (Be rfl rfl) (Gro (Al rfl rfl) (Gr (Aj rfl rfl) (Gm rfl (A6 (d := 122) rfl (fun g122 => ?_) (fun g122 => ?_)))))
     ·refine Gpo (Gpo (Gpo (Gpo (Gpu (Gpu (Gpu (Gpu (Gpo (Gr (Al rfl rfl) (Ga rfl (Af (Ar (S1 82 rfl) (B6 rfl (Ah (Ga rfl (Af (Ay (Au (Ad ?_)))))))))))))))))))
      exfalso; first | omega | (exact absurd rfl asm) | (simp_all; done)
     ·refine Gro (Aa fld220_4 rfl) (Gro (Aq ty4) ?_)
      exact Gro (Cl rfl) (Gro (Ac rfl) (Gpo (Gpo (Gpo (Gpo (Gro (Aj rfl rfl) (Gr (Aj rfl rfl) (Ga rfl (Af (Ar (S1 82 rfl) (C2 rfl (A0 (Am (Ai (Ah (Ga rfl (Af (Ay (Av rfl rfl (I) Az ⟨rfl, rfl⟩)))))))))))))))))))
theorem PAt_ok {κ : Ctx} {I : List Item} {nd kd wd mo tq : Int} {ea : Option Addr} {ec : Nat} {es : List Ev} (hl : Sl κ I (.slice ea es.length ec) es) (hH : HistOk nd kd wd mo es) (hlen : es.length ≤ 19) (ht : 0 ≤ tq ∧ tq ≤ 1048576) :
    CallS Tryz.prog κ 180 [.agg #[I64 (nd), .slice ea es.length ec, I64 (kd), I64 (wd), I64 (mo)], I64 (tq)] I (fun r J => ∃ a c, r = .agg #[I64 nd, .slice a (atG kd wd mo es tq).length c] ∧ J = vc 135 (.slice a (atG kd wd mo es tq).length c) (atG kd wd mo es tq) :: I) := by
 refine Ce2 Tryz.func180 rfl rfl ?_
 refine Ah (Ge1 (Bd (cs := [_, _, _, _, _]) rfl rfl rfl) fun b1 => Ge1 (A4 ty48 rfl) fun b2 => Af (Ah (Gf fld163_0 rfl (Gl ty3 ?_))))
 refine Gf fld163_1 rfl (Gl ty28 ?_)
 refine Gf fld163_2 rfl (Gl3 ty31 ?_)
 refine Gm rfl (G.e (Ap call44 rfl rfl (At_ok (nd := nd) (kd := kd) (wd := wd) (mo := mo) (tq := tq) (Bh hl) hH hlen ht)) ?_)
 rintro _ _ ⟨_, _, ⟨ad3, cp4, rfl, rfl⟩, rfl, rfl⟩
 refine Gm rfl (Gr (A1 rfl rfl) (Gr (A1 rfl rfl) (Ge1 (A4 ty48 rfl) fun b5 => Ge0 (B4 ty48) ?_)))
 refine Ga rfl (Af (Ar (S2 5 4 rfl rfl) (Ah (Gl2 ty48 ?_))))
 refine Ge0 (B4 ty48) ?_
 exact Af (Ay (Dh rfl ty48 rfl mm rfl (vc 135 (.slice ad3 (atG kd wd mo es tq).length cp4) (atG kd wd mo es tq) :: I) Bw ⟨ad3, cp4, rfl, rfl⟩))
set_option maxHeartbeats 1000000 in
theorem ADense_ok {κ : Ctx} {I : List Item} {nd tv : Int} {ea : Option Addr} {ec : Nat} {es : List Pt} (hl : Sl κ I (.slice ea es.length ec) es) (hT : TabRd κ I 0 tzCells) :
    CallS Tryz.prog κ 186 [.agg #[I64 (nd), .slice ea es.length ec], .agg #[.bool false, I64 (0), I64 (tv), .slice none 0 0, I64 (0), I64 (0), .slice none 0 0, .slice none 0 0, .slice none 0 0, I64 (0), .slice none 0 0]] I (fun r J => ∃ a c B a2 c2 parts N D E, r = .agg #[.bool true, I64 0, I64 (tv), .slice a (listB B).length c, I64 N, I64 D, .slice none 0 0, .slice none 0 0, .slice none 0 0, I64 E, .slice a2 (parts : List Int).length c2] ∧ BestR nd es N D B ∧ J = vc 3 (.slice a (listB B).length c) (listB B) :: vc 3 (.slice a2 parts.length c2) parts :: I) := by
 refine Ce2 Tryz.func186 rfl rfl ?_
 refine Ah (Ge1 (Bd (cs := [_, _]) rfl rfl rfl) fun b1 => Ge1 (Bd (cs := [_, _, _, _, _, _, _, _, _, _, _]) rfl rfl rfl) fun b2 => Ge1 (A4 ty90 rfl) fun b3 => Af (Ah (Gl2 ty48 ?_)))
 refine G.e (Ap call100 rfl rfl (BestD_ok (nd := nd) (Bh hl) (Cd hT Az))) ?_
 rintro _ _ ⟨_, _, ⟨ad4, cp5, Bqq8, ad6, cp7, ptq8, Nqq8, Dqq8, Eqq8, rfl, hBR, rfl⟩, rfl, rfl⟩
 refine Gm rfl (Gr (A1 rfl rfl) (Gr (A1 rfl rfl) (Ge1 (A4 ty102 rfl) fun b9 => Ge0 (Es5_5 ty102) ?_)))
 refine Ga rfl (Af (Ax (Bj mixed (Br (blk b9 [.slice ad4 (listB Bqq8).length cp5, I64 (Nqq8), I64 (Dqq8), I64 (Eqq8), .slice ad6 ptq8.length cp7] 102 :: vc 3 (.slice ad4 (listB Bqq8).length cp5) (listB Bqq8) :: vc 3 (.slice ad6 ptq8.length cp7) (ptq8) :: blk b3 [.bool false, I64 (0), I64 (0), .slice none 0 0, I64 (0), I64 (0), .slice none 0 0, .slice none 0 0, .slice none 0 0, I64 (0), .slice none 0 0] 90 :: blk b1 [I64 (nd), .slice ea es.length ec] 48 :: I) 14 (Dr 0 rfl (Aa fld102_0 rfl) (Dr 1 rfl (Aq ty22) ?_))))))
 refine Dr 2 rfl (Aa fld102_1 rfl) (Dr 3 rfl (Bk (vs := [_, _]) ty40) ?_)
 refine Dr 4 rfl (Aa fld102_2 rfl) (Dr 5 rfl (Bk (vs := [_, _]) ty88) ?_)
 refine Dr 6 rfl (Aa fld90_0 rfl) (Ds1 7 (Se0 rfl (Da (cs := [_, _, _, _, _, _, _, _, _, _, _]) (vs := [_]) (cs' := [_, _, _, _, _, _, _, _, _, _, _]) ty4) ?_))
 refine Dr 8 rfl (Aa fld90_3 rfl) (Ds1 9 (Se0 rfl (Da (cs := [_, _, _, _, _, _, _, _, _, _, _]) (vs := [_]) (cs' := [_, _, _, _, _, _, _, _, _, _, _]) ty22) ?_))
 refine Dr 10 rfl (Aa fld90_4 rfl) (Ds1 11 (Se0 rfl (Da (cs := [_, _, _, _, _, _, _, _, _, _, _]) (vs := [_, _]) (cs' := [_, _, _, _, _, _, _, _, _, _, _]) ty40) ?_))
 refine Dr 12 rfl (Aa fld90_8 rfl) (Ds1 13 (Se0 rfl (Da (cs := [_, _, _, _, _, _, _, _, _, _, _]) (vs := [_, _]) (cs' := [_, _, _, _, _, _, _, _, _, _, _]) ty88) ?_))
 refine Dz (Ai (Ar (S2 4 3 rfl rfl) (Ah (Gr (Bk (vs := [_, _, _, _, _, _, _, _, _, _, _]) ty90) ?_))))
 refine Ge0 (Da (cs := [_, _, _, _, _, _, _, _, _, _, _]) (vs := [_, _, _, _, _, _, _, _, _, _, _]) (cs' := [_, _, _, _, _, _, _, _, _, _, _]) ty90) ?_
 exact Af (Ay (Dh rfl ty90 rfl mm rfl (vc 3 (.slice ad4 (listB Bqq8).length cp5) (listB Bqq8) :: vc 3 (.slice ad6 ptq8.length cp7) ptq8 :: I) Bw ⟨ad4, cp5, Bqq8, ad6, cp7, ptq8, Nqq8, Dqq8, Eqq8, rfl, hBR, rfl⟩))
end Go.Sl
namespace Go.Sl
end Go.Sl
namespace Go.Sl
open Go.Proofs
set_option maxRecDepth 4000
section
variable {P : Program} {κ : Ctx} {N : Frm} {L : Env} {J : List Item} {d : Option Tmp} {ty : TypeId} {ps : String} {af : Array Edge} {gd : Option (Nat × Bool)}
end
end Go.Sl
namespace Go.Sl
section
variable {P : Program}
end
end Go.Sl
namespace Go.Sl
open Go.Proofs
set_option maxRecDepth 4000
variable {κ : Ctx} {I : List Item}
theorem MkWindowV_base {b : Nat} {lv : Value} {ls : List Int} {i : Int}  (hl : ∀ q, Sl κ (deck b lv q :: I) lv ls) (h0 : 0 ≤ i)   :
    CallS Tryz.prog κ 21 [.pointer (some ⟨b, 0, none⟩)] (blk b [lv, I64 (i)] 125 :: I) (fun r J => ∃ y : Int × Int × Int × Int, ((r = .agg #[I64 y.1, I64 y.2.1, I64 y.2.2.1] ∧ checkW y.1 y.2.1 y.2.2.1 = 0) ∧ 0 ≤ y.2.2.2) ∧ J = [] ++ deck b lv y.2.2.2 :: I) := by
 refine Ce1 Tryz.func21 rfl rfl ?_
 refine Ah (Ge1 (A4 ty31 rfl) fun b1 => Af (Ax (Ah (Gm rfl (G.e (Ap call19 rfl rfl (Next_ok (by repeat (first | exact AtF.head _ _ | apply AtF.tail)) (Cf (hl _) Az) om om)) ?_)))))
 rintro _ _ ⟨_, _, ⟨x2, i3, rfl, hx2, hi3, rfl⟩, rfl, rfl⟩
 show G Tryz.prog κ _ _ _ _ ([(4, I64 (x2)), (3, .pointer (some ⟨b, 0, none⟩)), (2, .pointer (some ⟨b1, 0, none⟩)), (0, .pointer (some ⟨b, 0, none⟩))] : Env) (blk b1 [I64 (0), I64 (0), I64 (0)] 31 :: blk b [lv, I64 (i3)] 125 :: I)
 refine Af (A5 (Ah (Gr (Bf rfl rfl) (Ga rfl (Af (A7 rfl (fun c5 => ?_) (fun c5 => ?_)))))))
 ·refine Ah (Gm rfl (G.e (Ap call19 rfl rfl (Next_ok (by repeat (first | exact AtF.head _ _ | apply AtF.tail)) (Cf (hl _) Az) om om)) ?_))
  rintro _ _ ⟨_, _, ⟨x4, i5, rfl, hx4, hi5, rfl⟩, rfl, rfl⟩
  show G Tryz.prog κ _ _ _ _ ([(8, I64 (x4)), (7, .pointer (some ⟨b, 0, none⟩)), (5, .bool (decide (x2 = 1))), (6, .bool (decide (x2 = 1))), (4, I64 (x2)), (3, .pointer (some ⟨b, 0, none⟩)), (2, .pointer (some ⟨b1, 0, none⟩)), (0, .pointer (some ⟨b, 0, none⟩))] : Env) (blk b1 [I64 (0), I64 (0), I64 (0)] 31 :: blk b [lv, I64 (i5)] 125 :: I)
  refine Gr (Rad rfl rfl) (Gr (Bg (cells := [_, _, _]) ty31 D8 pl31 rfl rfl) (Ge0 (Es3_3 ty31) ?_))
  exact Af (Ay (Au (Ad (Dh rfl ty31 rfl mm rfl (blk b [lv, I64 (i5)] 125 :: I) A3 ⟨(2, 1 + x4, 0, i5), ⟨⟨rfl, by show checkW (2) (1 + x4) (0) = 0; unfold checkW; rw [if_neg om, if_neg om]⟩, by show 0 ≤ i5; omega⟩, rfl⟩))))
 ·refine Ah (Gr (Bf rfl rfl) (Ga rfl (Af (A7 rfl (fun c11 => ?_) (fun c11 => ?_)))))
  ·refine Ah (Gm rfl (G.e (Ap call19 rfl rfl (Next_ok (by repeat (first | exact AtF.head _ _ | apply AtF.tail)) (Cf (hl _) Az) om om)) ?_))
   rintro _ _ ⟨_, _, ⟨x6, i7, rfl, hx6, hi7, rfl⟩, rfl, rfl⟩
   show G Tryz.prog κ _ _ _ _ ([(14, I64 (x6)), (13, .pointer (some ⟨b, 0, none⟩)), (11, .bool (decide (x2 = 2))), (12, .bool (decide (x2 = 2))), (5, .bool (decide (x2 = 1))), (6, .bool (decide (x2 = 1))), (4, I64 (x2)), (3, .pointer (some ⟨b, 0, none⟩)), (2, .pointer (some ⟨b1, 0, none⟩)), (0, .pointer (some ⟨b, 0, none⟩))] : Env) (blk b1 [I64 (0), I64 (0), I64 (0)] 31 :: blk b [lv, I64 (i7)] 125 :: I)
   refine Gr (Bg (cells := [_, _, _]) ty31 D8 pl31 rfl rfl) (Ge0 (Es3_3 ty31) ?_)
   exact Af (Ay (Au (Ad (Dh rfl ty31 rfl mm rfl (blk b [lv, I64 (i7)] 125 :: I) A3 ⟨(3, 0, x6, i7), ⟨⟨rfl, by show checkW (3) (0) (x6) = 0; unfold checkW; rw [if_neg om, if_neg om]⟩, by show 0 ≤ i7; omega⟩, rfl⟩))))
  ·refine A0 (Am (Ai (Ah (Gr (Bg (cells := [_, _, _]) ty31 D8 pl31 rfl rfl) (Ge0 (Es3_3 ty31) ?_)))))
   exact Af (Ay (Dh rfl ty31 rfl mm rfl (blk b [lv, I64 (i3)] 125 :: I) A3 ⟨(1, 0, 0, i3), ⟨⟨rfl, by show checkW (1) (0) (0) = 0; unfold checkW; rw [if_neg om, if_neg om]⟩, by show 0 ≤ i3; omega⟩, rfl⟩))
theorem MkWindowV_at {F : Item → List Item} {b : Nat} {lv : Value} {ls : List Int} {i : Int}  (hat : AtF I (deck b lv i) F) (hl : ∀ q, Sl κ (F (deck b lv q)) lv ls) (h0 : 0 ≤ i)   :
  CallS Tryz.prog κ 21 [.pointer (some ⟨b, 0, none⟩)] I fun r J => ∃ y : Int × Int × Int × Int, ((r = .agg #[I64 y.1, I64 y.2.1, I64 y.2.2.1] ∧ checkW y.1 y.2.1 y.2.2.1 = 0) ∧ 0 ≤ y.2.2.2) ∧ J = [] ++ F (deck b lv y.2.2.2) :=
 D5 (Post := fun r (y : Int × Int × Int × Int) => (r = .agg #[I64 y.1, I64 y.2.1, I64 y.2.2.1] ∧ checkW y.1 y.2.1 y.2.2.1 = 0) ∧ 0 ≤ y.2.2.2) (Z := fun y : Int × Int × Int × Int => []) (X := fun y : Int × Int × Int × Int => deck b lv y.2.2.2) hat fun J _ hF => MkWindowV_base (fun q => (hl q).fit (hF _)) h0  
variable {κ : Ctx} {I : List Item}
theorem small3 {W : BitVec 64} (h : subN 3 W) : ∃ k : Fin 8, W = BitVec.ofNat 64 k.val := by
 have hb : ∀ i : Nat, 3 ≤ i → W.getLsbD i = false := fun i hi => by
  by_cases h64 : i < 64
  ·cases hc : W.getLsbD i with
   | false => rfl
   | true =>
    have := h (i : Int) (mem_listB.2 ⟨by omega, by rw [Int.toNat_natCast]; exact hc⟩)
    omega
  ·exact BitVec.getLsbD_of_ge _ _ om
 have hlt : W.toNat < 2 ^ 3 := by
  refine Nat.lt_pow_two_of_testBit _ fun i hi => ?_
  have := hb i hi
  rwa [← BitVec.testBit_toNat] at this
 exact ⟨⟨W.toNat, hlt⟩, by simp⟩
abbrev gB : List Pt := [⟨0, 1⟩]
theorem densB : DensP 3 1 2 gB 3#64 where
 sub := by unfold subN; decide +kernel
 ne := by decide
 eq := by decide +kernel
 max := fun W h => by
  obtain ⟨k, rfl⟩ := small3 h
  have : ∀ k : Fin 8, 2 * insE (BitVec.ofNat 64 k.val) gB ≤ 1 * cntB (BitVec.ofNat 64 k.val) := by decide +kernel
  exact this k
 great := fun W h e => by
  obtain ⟨k, rfl⟩ := small3 h
  have : ∀ k : Fin 8, 2 * insE (BitVec.ofNat 64 k.val) gB = 1 * cntB (BitVec.ofNat 64 k.val) → ∀ x ∈ listB (BitVec.ofNat 64 k.val), x ∈ listB 3#64 := by decide +kernel
  exact this k e
theorem grB : GrOk 3 gB := checkG_ok.1 (by decide +kernel)
theorem bestB {N D : Int} {B : BitVec 64} (h : BestR 3 gB N D B) : listB B = [0, 1] ∧ N = 1 ∧ D = 2 := by
 have hz := checkG_ok.2 grB
 have hR := h.some hz dc
 have hf := h.frv grB
 have hu := densB.uniq dc hR.den.1 hR.dens
 have hd := hR.den
 have hD : D = 2 * N := by omega
 have hN : 0 < N := by omega
 have hc : gcdI N (2 * N) = 1 := by have := hf.cop; simp only at this; rw [← hD]; exact this
 have h1 : N = 1 := by
  have h2 := gcdI_step (a := 2 * N) (b := N) om hN
  have h3 : Int.tmod (2 * N) N = 0 := by rw [Int.mul_comm]; exact Int.mul_tmod_right N 2
  rw [h3, gcdI_zero om] at h2
  have h4 := gcdI_step (a := N) (b := 2 * N) om om
  rw [Int.tmod_eq_of_lt om om] at h4
  omega
 subst h1
 have hD2 : D = 2 := by omega
 subst hD2
 refine ⟨?_, rfl, rfl⟩
 refine intLin.uniq (listB_asc _) dc fun x => ?_
 have e3 : listB 3#64 = [0, 1] := by decide +kernel
 rw [← e3]
 exact ⟨fun hx => densB.great B hR.dens.sub (by have := hR.dens.eq; exact this) x hx, fun hx => hR.dens.great 3#64 densB.sub (by have := densB.eq; exact this) x hx⟩
abbrev evB : Ev := ⟨1, 5, 0, 1, 1, 0, 1⟩
theorem hist_B : HistOk 3 1 0 0 [evB] := ⟨⟨by decide, by decide, fun j hj => by
 obtain rfl : j = 0 := by simp at hj; exact hj
 exact fitE_ok.1 dc, fun j hj => by
 obtain rfl : j = 0 := by simp at hj; exact hj
 decide⟩, by decide⟩
theorem all_B : allE 1 0 0 [evB] = [evB] := by unfold allE; rw [all_same]; decide
theorem at_B : atG 1 0 0 [evB] 5 = gB := by unfold atG atK; rw [all_B]; decide
theorem reach_B : reachQ 3 1 0 0 [evB] 1 2 5 := by
 unfold reachQ densQ
 rw [at_B, if_neg dc]
 exact ⟨3#64, densB.sub, densB.ne, by decide +kernel⟩
theorem first_B (tv : Int) (ok : Bool) (h : FirstP 1 0 0 [evB] (reachQ 3 1 0 0 [evB] 1 2) tv ok) : tv = 5 ∧ ok = true := by
 rcases h with ⟨h1, ⟨e, he, h2⟩, _⟩ | ⟨_, _, h3⟩
 ·rw [all_B, List.mem_singleton] at he
  subst he
  exact ⟨h2.symm, h1⟩
 ·exact absurd reach_B (h3 evB (by rw [all_B]; exact List.mem_singleton.2 rfl))
set_option maxHeartbeats 1000000 in
theorem AnsFirst_ok {nd kd wd mo num den T0 : Int} {ea : Option Addr} {ec : Nat} {es : List Ev} (hl : Sl κ I (.slice ea es.length ec) es) (hH : HistOk nd kd wd mo es) (hlen : es.length ≤ 19) (hf : FrV ⟨num, den⟩) (hT0 : ∀ tv ok, FirstP kd wd mo es (reachQ nd kd wd mo es num den) tv ok → tv = T0 ∧ ok = true) (ht0 : 0 ≤ T0 ∧ T0 ≤ 1048576) (hT : TabRd κ I 0 tzCells) :
    CallS Tryz.prog κ 191 [.agg #[I64 (nd), .slice ea es.length ec, I64 (kd), I64 (wd), I64 (mo)], .agg #[I64 (8), I64 (0), I64 (0), I64 (0), .slice none 0 0, I64 (num), I64 (den)]] I (fun r J => ∃ a c B a2 c2 parts N D E, r = .agg #[.bool true, I64 0, I64 (T0), .slice a (listB B).length c, I64 N, I64 D, .slice none 0 0, .slice none 0 0, .slice none 0 0, I64 E, .slice a2 (parts : List Int).length c2] ∧ BestR nd (atG kd wd mo es T0) N D B ∧ J = vc 3 (.slice a (listB B).length c) (listB B) :: vc 3 (.slice a2 parts.length c2) parts :: I) := by
 refine Ce2 Tryz.func191 rfl rfl ?_
 refine Ah (Ge1 (Bd (cs := [_, _, _, _, _]) rfl rfl rfl) fun b1 => Ge1 (Bd (cs := [_, _, _, _, _, _, _]) rfl rfl rfl) fun b2 => Ge1 (A4 ty90 rfl) fun b3 => Af (Ah (Gf fld163_0 rfl (Gl ty3 ?_))))
 refine Gf fld163_1 rfl (Gl ty28 ?_)
 refine Gf fld163_2 rfl (Gl3 ty31 ?_)
 refine Gf fld71_5 rfl (Gl2 ty40 ?_)
 refine G.e (Ap call47 rfl rfl (AFirst_ok (nd := nd) (kd := kd) (wd := wd) (mo := mo) (num := num) (den := den) (Bh hl) hH hlen hf (Cd hT Az))) ?_
 rintro _ _ ⟨_, _, ⟨tv4, ok5, rfl, hFPtv4, rfl⟩, rfl, rfl⟩
 obtain ⟨htvtv4, hoktv4⟩ := hT0 _ _ hFPtv4
 rw [htvtv4, hoktv4]
 refine Gm rfl (Gr (A1 rfl rfl) (Gr (A1 rfl rfl) (Gr (A1 rfl rfl) (Ga rfl (Ga rfl (Ga rfl (Af (Ar (S4 6 5 4 2 rfl rfl rfl rfl) (Ax (Ah (Gm rfl (Gr (Cl rfl) (Af (C2 rfl (A0 (Ai (Ah (Gr (Bk (vs := [_, _, _, _, _]) ty163) ?_))))))))))))))))))
 refine Gm rfl (Gc2 (Ap call180 rfl rfl (PAt_ok (nd := nd) (kd := kd) (wd := wd) (mo := mo) (tq := T0) (Bh hl) hH hlen ht0)) fun ad6 cp7 => ?_)
 refine Gm rfl (Gr (Bg (cells := [_, _, _, _, _, _, _, _, _, _, _]) ty90 Tryz.underlying90 pl90 rfl rfl) (G.e (Ap call186 rfl rfl (ADense_ok (nd := nd) (tv := T0) Bo (Cd hT Az))) ?_))
 rintro _ _ ⟨_, _, ⟨ad8, cp10, BB11, ad12, cp13, pt14, NN15, DD16, EE17, rfl, hBR, rfl⟩, rfl, rfl⟩
 refine Ge0 (Da (cs := [_, _, _, _, _, _, _, _, _, _, _]) (vs := [_, _, _, _, _, _, _, _, _, _, _]) (cs' := [_, _, _, _, _, _, _, _, _, _, _]) ty90) ?_
 exact Af (Ay (Dh rfl ty90 rfl mm rfl (vc 3 (.slice ad8 (listB BB11).length cp10) (listB BB11) :: vc 3 (.slice ad12 pt14.length cp13) pt14 :: I) Bw ⟨ad8, cp10, BB11, ad12, cp13, pt14, NN15, DD16, EE17, rfl, hBR, rfl⟩))
theorem Answers_ok  :
    CallS Tryz.prog κ 106 [] I (fun r J => ∃ m_ : Nat, r = .map (some m_) ∧ J = mp m_ [({ key := I64 (1), val := .func (.func 178) #[] #[], born := 0 } : MapEntry), ({ key := I64 (2), val := .func (.func 181) #[] #[], born := 1 } : MapEntry), ({ key := I64 (3), val := .func (.func 182) #[] #[], born := 2 } : MapEntry), ({ key := I64 (4), val := .func (.func 184) #[] #[], born := 3 } : MapEntry), ({ key := I64 (5), val := .func (.func 185) #[] #[], born := 4 } : MapEntry), ({ key := I64 (6), val := .func (.func 187) #[] #[], born := 5 } : MapEntry), ({ key := I64 (7), val := .func (.func 189) #[] #[], born := 6 } : MapEntry), ({ key := I64 (8), val := .func (.func 191) #[] #[], born := 7 } : MapEntry), ({ key := I64 (9), val := .func (.func 192) #[] #[], born := 8 } : MapEntry), ({ key := I64 (10), val := .func (.func 193) #[] #[], born := 9 } : MapEntry)] 10 :: I) := by
 refine Ce0 Tryz.func106 rfl rfl ?_
 refine Ah (Ga rfl (Af (Ah (Ge1 (Eff.makeMap rfl) fun mr1 => ?_))))
 refine Ge0 (Cq Cb Bl rfl rfl rfl rfl rfl am) ?_
 refine Ge0 (Cq Cb Bl rfl rfl rfl rfl rfl am) ?_
 refine Ge0 (Cq Cb Bl rfl rfl rfl rfl rfl am) ?_
 refine Ge0 (Cq Cb Bl rfl rfl rfl rfl rfl am) ?_
 refine Ge0 (Cq Cb Bl rfl rfl rfl rfl rfl am) ?_
 refine Ge0 (Cq Cb Bl rfl rfl rfl rfl rfl am) ?_
 refine Ge0 (Cq Cb Bl rfl rfl rfl rfl rfl am) ?_
 refine Ge0 (Cq Cb Bl rfl rfl rfl rfl rfl am) ?_
 refine Ge0 (Cq Cb Bl rfl rfl rfl rfl rfl am) ?_
 refine Ge0 (Cq Cb Bl rfl rfl rfl rfl rfl am) ?_
 exact Gm rfl (Ga rfl (Af (Ay (Av rfl rfl (mp mr1 [({ key := I64 (1), val := .func (.func 178) #[] #[], born := 0 } : MapEntry), ({ key := I64 (2), val := .func (.func 181) #[] #[], born := 1 } : MapEntry), ({ key := I64 (3), val := .func (.func 182) #[] #[], born := 2 } : MapEntry), ({ key := I64 (4), val := .func (.func 184) #[] #[], born := 3 } : MapEntry), ({ key := I64 (5), val := .func (.func 185) #[] #[], born := 4 } : MapEntry), ({ key := I64 (6), val := .func (.func 187) #[] #[], born := 5 } : MapEntry), ({ key := I64 (7), val := .func (.func 189) #[] #[], born := 6 } : MapEntry), ({ key := I64 (8), val := .func (.func 191) #[] #[], born := 7 } : MapEntry), ({ key := I64 (9), val := .func (.func 192) #[] #[], born := 8 } : MapEntry), ({ key := I64 (10), val := .func (.func 193) #[] #[], born := 9 } : MapEntry)] 10 :: I) Bw ⟨mr1, rfl, rfl⟩))))
set_option maxHeartbeats 1000000 in
theorem Ask8_ok {nd kd wd mo num den T0 : Int} {ea : Option Addr} {ec : Nat} {es : List Ev} (hl : Sl κ I (.slice ea es.length ec) es) (hH : HistOk nd kd wd mo es) (hlen : es.length ≤ 19) (hf : FrV ⟨num, den⟩) (hT0 : ∀ tv ok, FirstP kd wd mo es (reachQ nd kd wd mo es num den) tv ok → tv = T0 ∧ ok = true) (ht0 : 0 ≤ T0 ∧ T0 ≤ 1048576) (hT : TabRd κ I 0 tzCells) :
    CallS Tryz.prog κ 56 [I64 (nd), .slice ea es.length ec, .agg #[I64 (kd), I64 (wd), I64 (mo)], .agg #[I64 (8), I64 (0), I64 (0), I64 (0), .slice none 0 0, I64 (num), I64 (den)]] I (fun r J => ∃ a c B a2 c2 parts N D E, r = .tuple #[.agg #[.bool true, I64 0, I64 (T0), .slice a (listB B).length c, I64 N, I64 D, .slice none 0 0, .slice none 0 0, .slice none 0 0, I64 E, .slice a2 (parts : List Int).length c2], I64 0] ∧ BestR nd (atG kd wd mo es T0) N D B ∧ J = vc 3 (.slice a (listB B).length c) (listB B) :: vc 3 (.slice a2 parts.length c2) parts :: I) := by
 refine Ce4 Tryz.func56 rfl rfl ?_
 refine Ah (Ge1 (Bd (cs := [_, _, _]) rfl rfl rfl) fun b1 => Ge1 (Bd (cs := [_, _, _, _, _, _, _]) rfl rfl rfl) fun b2 => Ge1 (A4 ty90 rfl) fun b3 => Ga rfl (Af (Ax (Ah (Gm rfl (Gm rfl (Gl3 ty31 ?_)))))))
 refine Gc0 (Ap call97 rfl rfl (ACheck_ok (nd := nd) (kd := kd) (wd := wd) (mo := mo) (Bh hl))) ?_
 refine Ga rfl (Af (Ah (Gm rfl (Gr (Be rfl rfl) (Af (Ar (S7 17 10 8 7 6 0 1 rfl rfl rfl rfl rfl rfl rfl) (A7 rfl (fun c17 => ?_) (fun c17 => ?_))))))))
 ·exact absurd (slideE_zeroH hH) c17
 ·refine A0 (Ai (Ax (Ah (Gl7 ty71 ?_))))
  refine Gm rfl (Gc0 (Ap call105 rfl rfl (QCheck8_ok (n := nd) hf)) ?_)
  refine Ga rfl (Af (Ah (Gm rfl (Gr (Be rfl rfl) (Af (A7 rfl (fun c24 => ?_) (fun c24 => ?_)))))))
  ·exact absurd rfl c24
  ·refine A0 (Ai (Ax (Bj mixed (Br (blk b2 [I64 (8), I64 (0), I64 (0), I64 (0), .slice none 0 0, I64 (num), I64 (den)] 71 :: blk b1 [I64 (kd), I64 (wd), I64 (mo)] 31 :: I) 12 (Dr 1 rfl (Aa fld71_0 rfl) (Dr 2 rfl (Aq ty3) ?_))))))
   refine Dr 4 rfl (Ac rfl) (Dr 5 rfl (Ac rfl) (Dr 6 rfl (Bk (vs := [_, _, _]) ty31) ?_))
   refine Dr 7 rfl (Bg (cells := [_, _, _, _, _]) ty163 Tryz.underlying163 pl163 rfl rfl) (Dr 8 rfl (Bk (vs := [_, _, _, _, _, _, _]) ty71) ?_)
   refine Ds1 0 (Se rfl (Ap call106 rfl rfl Answers_ok) ?_)
   rintro _ _ ⟨_, _, ⟨mp4, rfl, rfl⟩, rfl, rfl⟩
   refine ⟨A3, ?_⟩
   refine Ds1 3 (Sr rfl (Runs.lookupK (i := 7) Cb Bl rfl rfl rfl mm rfl) A3 ?_)
   refine Ds1 9 (Se rfl (Ct call191 rfl rfl rfl (AnsFirst_ok (nd := nd) (kd := kd) (wd := wd) (mo := mo) (num := num) (den := den) (T0 := T0) (ea := ea) (ec := ec) (es := es) (Bh hl) hH hlen hf hT0 ht0 (Cd hT Az))) ?_)
   rintro _ _ ⟨_, _, ⟨ad5, cp6, BB7, ad8, cp9, pt10, NN11, DD12, EE13, rfl, hBR, rfl⟩, rfl, rfl⟩
   refine ⟨A3, ?_⟩
   refine Ds1 10 (Se0 rfl (Da (cs := [_, _, _, _, _, _, _, _, _, _, _]) (vs := [_, _, _, _, _, _, _, _, _, _, _]) (cs' := [_, _, _, _, _, _, _, _, _, _, _]) ty90) ?_)
   exact Dr 11 rfl (A9 rfl) (Dz (Ai (Ar (S2 9 8 rfl rfl) (Ay (Cz rfl ty90 rfl rfl mm rfl (vc 3 (.slice ad5 (listB BB7).length cp6) (listB BB7) :: vc 3 (.slice ad8 pt10.length cp9) pt10 :: I) Bw ⟨ad5, cp6, BB7, ad8, cp9, pt10, NN11, DD12, EE13, rfl, hBR, rfl⟩)))))
set_option maxHeartbeats 1000000 in
theorem Awake43_ok (hT : TabRd κ I 0 tzCells) :
    CallS Tryz.prog κ 41 [] I (fun r J => r = .bool true ∧ I = J) := by
 refine Ce0 Tryz.func41 rfl rfl ?_
 refine Ah (Ga rfl (Af (Ah (Gr (Bg (cells := [_, _, _, _, _, _, _]) ty108 Co pl108 rfl rfl) (Ge1 (B0 (α := Ev) (cs := [I64 (1), I64 (5), I64 (0), I64 (1), I64 (1), I64 (0), I64 (1)]) (xs := [⟨1, 5, 0, 1, 1, 0, 1⟩]) Aw ty108 rfl rfl dc dc rfl kr rfl rfl) fun ad1 => ?_)))))
 refine Ga rfl (Af (Ah (Gm rfl (Gr (Bg (cells := [_, _, _]) ty31 D8 pl31 rfl rfl) (Gr (Bg (cells := [_, _]) ty40 D7 pl40 rfl rfl) (Gr (Bg (cells := [_, _, _, _, _, _, _]) ty71 Tryz.underlying71 pl71 rfl rfl) (G.e (Ap call56 rfl rfl (Ask8_ok (nd := 3) (kd := 1) (wd := 0) (mo := 0) (num := 1) (den := 2) (T0 := 5) (ea := ad1) (ec := 1) (es := ([⟨1, 5, 0, 1, 1, 0, 1⟩] : List Ev)) Bo hist_B dc ⟨by decide, by decide, by decide, by decide, by decide⟩ first_B dc (Cd hT Az))) ?_)))))))
 rintro _ _ ⟨_, _, ⟨ad2, cp3, BB4, ad5, cp6, pt7, NN8, DD9, EE10, rfl, hBR, rfl⟩, rfl, rfl⟩
 refine Gm rfl (Gr (A1 rfl rfl) (Gr (A1 rfl rfl) (Ge1 (A4 ty90 rfl) fun b11 => Ge0 (Da (cs := [_, _, _, _, _, _, _, _, _, _, _]) (vs := [_, _, _, _, _, _, _, _, _, _, _]) (cs' := [_, _, _, _, _, _, _, _, _, _, _]) ty90) ?_)))
 rw [at_B] at hBR
 obtain ⟨hBl, hN1, hD2⟩ := bestB hBR
 refine Ga rfl (Af (Ar (S2 3 2 rfl rfl) (Ah (Gm rfl (Gr (Bf rfl rfl) (Gm rfl (A6 (d := 16) rfl (fun g16 => ?_) (fun g16 => ?_))))))))
 ·refine Gro (Aa fld90_0 rfl) (Gro (Aq ty4) ?_)
  refine Gr (Al rfl rfl) (Gm rfl (Gro (Aa fld90_2 rfl) (Gro (Aq ty3) ?_)))
  refine Gro (Bf rfl rfl) (Gr (Al rfl rfl) (Gm rfl (A6 (d := 25) rfl (fun g25 => ?_) (fun g25 => ?_))))
  ·refine Gro (Aa fld90_3 rfl) (Gro (Aq ty22) ?_)
   refine Dv (Cc rfl rfl rfl) (B0 (α := Int) (cs := [_, _]) (xs := [0, 1]) Ao ty3 rfl rfl dc dc rfl rfl rfl rfl) ?_
   rintro _ _ ⟨ad12, rfl, rfl⟩
   refine Dv (Cc rfl rfl rfl) (Ap call61 rfl rfl (Cmp_ok Bo Bo)) ?_
   rintro _ _ ⟨_, _, ⟨rfl, rfl⟩, rfl, rfl⟩
   refine Gro (Bf rfl rfl) (Gr (Al rfl rfl) (Gm rfl (A6 (d := 32) rfl (fun g32 => ?_) (fun g32 => ?_))))
   ·refine Gro (Aa fld90_4 rfl) (Gro (Bk (vs := [_, _]) ty40) ?_)
    exact Gro (Bg (cells := [_, _]) ty40 D7 pl40 rfl rfl) (Gro (Runs.eqlT (α := Fr) (a := (⟨NN8, DD9⟩ : Fr)) (b := (⟨1, 2⟩ : Fr)) eqt40 rfl rfl) (Gr (Al rfl rfl) (Ga rfl (Af (Ar (S1 0 rfl) (Ay (Av rfl rfl (I) Az ⟨by rw [decide_eq_true (by rw [hN1, hD2])], rfl⟩)))))))
   ·exact absurd ((cmpL_eq _ _).2 hBl) g32
  ·exact absurd rfl g25
 ·exact absurd rfl g16
end Go.Sl
