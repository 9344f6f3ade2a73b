/- A part of the proof of FlowProvesSaid: contracts of the functions that it reaches, and the plain laws that they lean on. No conditions. -/
import Derived.Test.YtbimaodbcjjbfaaPart02
import Derived.Test.YtbimaodbcjjbfaaPart05
/- What a check of a flow accepts: the plain law. No Go. -/
namespace Go.Sl
set_option linter.unusedVariables false


/-- The set as a test. -/
def inL (l : List Int) : Int → Bool := fun z => decide (z ∈ l)
def cutK (n : Net) (S : Int → Bool) (m : Nat) : Int := sumN m fun k => if S (at_ n.arcs (k : Int)).frm && !S (at_ n.arcs (k : Int)).dst then (at_ n.arcs (k : Int)).cap else 0
theorem cutK_bd {n : Net} (hok : n.Ok) (S : Int → Bool) (m : Nat) (hm : m ≤ n.arcs.length) : 0 ≤ cutK n S m ∧ cutK n S m ≤ (m : Int) * 1099511627776 := by
  induction m with
  | zero => simp [cutK, sumN]
  | succ m ih =>
    have := ih (by omega)
    have := arc_at hok (k := m) (by omega)
    unfold cutK at *
    simp only [sumN]
    split <;> omega
theorem cutK_yes {n : Net} {S : Int → Bool} {k : Nat} (h1 : S (at_ n.arcs (k : Int)).frm = true) (h2 : S (at_ n.arcs (k : Int)).dst = false) : cutK n S (k + 1) = cutK n S k + (at_ n.arcs (k : Int)).cap := by
  unfold cutK; simp only [sumN]; rw [h1, h2]; rfl
theorem cutK_no {n : Net} {S : Int → Bool} {k : Nat} (h : S (at_ n.arcs (k : Int)).frm = false ∨ S (at_ n.arcs (k : Int)).dst = true) : cutK n S (k + 1) = cutK n S k := by
  unfold cutK; simp only [sumN]
  rcases h with h | h <;> rw [h] <;> simp

def netK (n : Net) (f : List Int) (v : Int) (m : Nat) : Int := sumN m fun k => (if (at_ n.arcs (k : Int)).frm = v then at_ f (k : Int) else 0) - (if (at_ n.arcs (k : Int)).dst = v then at_ f (k : Int) else 0)
def CapOk (n : Net) (f : List Int) : Prop := ∀ k : Nat, k < n.arcs.length → 0 ≤ at_ f (k : Int) ∧ at_ f (k : Int) ≤ (at_ n.arcs (k : Int)).cap
theorem netK_bd {n : Net} (hok : n.Ok) {f : List Int} (v : Int) (m : Nat) (hm : m ≤ n.arcs.length) (hf : ∀ k, k < m → 0 ≤ at_ f (k : Int) ∧ at_ f (k : Int) ≤ (at_ n.arcs (k : Int)).cap) : -((m : Int) * 1099511627776) ≤ netK n f v m ∧ netK n f v m ≤ (m : Int) * 1099511627776 := by
  induction m with
  | zero => simp [netK, sumN]
  | succ m ih =>
    have := ih (by omega) fun k hk => hf k (by omega)
    have := arc_at hok (k := m) (by omega)
    have := hf m (by omega)
    unfold netK at *
    simp only [sumN]
    split <;> split <;> omega
theorem netK_succ {n : Net} {f : List Int} {v : Int} {k : Nat} : netK n f v (k + 1) = netK n f v k + ((if (at_ n.arcs (k : Int)).frm = v then at_ f (k : Int) else 0) - (if (at_ n.arcs (k : Int)).dst = v then at_ f (k : Int) else 0)) := rfl

/-- P16.3 -/
structure ProofP (n : Net) (f side : List Int) (val : Int) : Prop where
  cap : CapOk n f
  cons : ∀ v, 0 ≤ v → v < n.nodes → v ≠ n.source → v ≠ n.sink → netF n f v = 0
  value : netF n f n.source = val
  src : n.source ∈ side
  snk : n.sink ∉ side
  cut : cutS n (inL side) = val
open Classical in
noncomputable def provesE (n : Net) (f side : List Int) (val : Int) : Int :=
  if checkN n ≠ 0 then checkN n else if f.length ≠ n.arcs.length ∨ ¬ ValidP side n.nodes then 4 else if ProofP n f side val then 0 else 12
section
variable {n : Net} {f side : List Int} {val : Int}
theorem provesE_1 (h : checkN n ≠ 0) : provesE n f side val = checkN n := by unfold provesE; rw [if_pos h]
theorem provesE_4 (h : checkN n = 0) (h' : f.length ≠ n.arcs.length ∨ ¬ ValidP side n.nodes) : provesE n f side val = 4 := by unfold provesE; rw [if_neg (by simp [h]), if_pos h']
theorem provesE_12 (h : checkN n = 0) (h1 : f.length = n.arcs.length) (h2 : ValidP side n.nodes) (h3 : ¬ ProofP n f side val) : provesE n f side val = 12 := by
  unfold provesE; rw [if_neg (by simp [h]), if_neg (by simp [h1, h2]), if_neg h3]
theorem provesE_0 (h : checkN n = 0) (h1 : f.length = n.arcs.length) (h2 : ValidP side n.nodes) (h3 : ProofP n f side val) : provesE n f side val = 0 := by
  unfold provesE; rw [if_neg (by simp [h]), if_neg (by simp [h1, h2]), if_pos h3]

theorem sideL_valid (N : Nat) (R : Int → Bool) : ValidP (sideL N R) (N : Int) := by
  induction N with
  | zero => exact ValidP_nil _
  | succ N ih =>
    rw [sideL_succ]
    split
    · have := ValidP_push ih (by omega)
      exact this
    · rw [List.append_nil]; exact ValidP_mono ih (by omega)
theorem inL_side (hok : n.Ok) (R : Int → Bool) : ∀ z, 0 ≤ z → z < n.nodes → inL (sideL n.nodes.toNat R) z = R z := fun z h0 h1 => by
  unfold inL
  rw [Bool.eq_iff_iff, decide_eq_true_iff, mem_sideL]
  exact ⟨fun h => h.2, fun h => ⟨⟨h0, by omega⟩, h⟩⟩
theorem cutS_congr (hok : n.Ok) {S T : Int → Bool} (h : ∀ z, 0 ≤ z → z < n.nodes → S z = T z) : cutS n S = cutS n T := by
  refine sumN_congr _ fun k hk => ?_
  have := arc_at hok hk
  rw [h _ (by omega) (by omega), h _ (by omega) (by omega)]
/-- A greatest flow with its least side is accepted; so it is with any set whose cut has the value. -/
theorem proof_of {R : Int → Bool} (hok : n.Ok) (hf : IsFlow n f) (hs : R n.source = true) (ht : R n.sink = false) (hsh : Shut n f R) (hv : val = netF n f n.source) : provesE n f (sideL n.nodes.toNat R) val = 0 := by
  have hsrc := hok.src
  have hsnk := hok.snk
  refine provesE_0 (checkN_ok.2 hok) hf.len (by have := sideL_valid n.nodes.toNat R; rwa [show ((n.nodes.toNat : Nat) : Int) = n.nodes from by omega] at this) ⟨hf.cap, hf.cons, hv.symm, ?_, ?_, ?_⟩
  · rw [mem_sideL]; exact ⟨by omega, hs⟩
  · rw [mem_sideL]; intro h; rw [ht] at h; exact absurd h.2 (by simp)
  · rw [cutS_congr hok (inL_side hok R), hv]; exact ((shut_value hok hf hs ht).2 hsh).symm
theorem MaxF.proof (hok : n.Ok) (h : MaxF n f side val) : provesE n f side val = 0 := by
  obtain ⟨R, hR, rfl⟩ := h.side
  exact proof_of hok h.flow hR.src hR.snk hR.shut h.val
/-- A greatest flow with the greatest side. -/
theorem MaxF.proofG (hok : n.Ok) (h : MaxF n f side val) {most : List Int} (hm : GreatL n most) : provesE n f most val = 0 := by
  obtain ⟨g, T, hg, hT, rfl⟩ := hm
  obtain ⟨R, hR, _⟩ := h.side
  have e : netF n g n.source = netF n f n.source := Int.le_antisymm (hR.max hok h.flow hg) (hT.max hok hg h.flow)
  exact proof_of hok h.flow hT.src hT.snk ((shut_value hok h.flow hT.src hT.snk).1 (by rw [← e]; exact hT.value hok hg)) h.val
end
end Go.Sl
namespace Go.Sl
open Go.Proofs
set_option linter.unusedVariables false
set_option linter.unusedSimpArgs false
set_option maxRecDepth 4000
theorem RGreat_err {κ : Ctx} {I : List Item} {n : Net} {v : Value} (hl : Sl κ I v n.arcs) (he : checkN n ≠ 0) :
    CallS Try.prog κ 27 [.agg #[I64 (n.nodes), I64 (n.source), I64 (n.sink), v]] I (fun r J => r = .tuple #[.slice none 0 0, I64 (checkN n)] ∧ I = J) := by
 refine CallS.enter (L := [(0, .agg #[I64 (n.nodes), I64 (n.source), I64 (n.sink), v])]) Try.func27 rfl rfl rfl rfl ?_
 refine W.sr ?_
 refine G.e (Eff.box (cs := [_, _, _, _]) rfl rfl rfl) ?_
 rintro _ _ ⟨b1, rfl, rfl⟩
 refine G.r (Runs.assign rfl) ?_
 refine G.r (Runs.assign rfl) ?_
 refine G.nt ?_
 refine W.sr ?_
 refine G.r (Runs.lds (vs := [_, _, _, _]) ty30) ?_
 refine G.e (Eff.call call24 rfl rfl (RMax_err (n := n) (Sl.f hl) he)) ?_
 rintro _ _ ⟨_, _, ⟨rfl, rfl⟩, rfl, rfl⟩
 refine G.r (Runs.move rfl) ?_
 refine G.r (Runs.extract rfl rfl) ?_
 refine G.r (Runs.extract rfl rfl) ?_
 refine G.e (Eff.alloc ty24 rfl) ?_
 rintro _ _ ⟨b2, rfl, rfl⟩
 refine G.e (Eff.st (cs := [_, _, _]) (vs := [_, _, _]) (cs' := [_, _, _]) ty24) ?_
 rintro _ _ ⟨rfl, rfl⟩
 refine G.r (Runs.assign rfl) ?_
 refine G.nt ?_
 refine W.seq ?_
 refine W.sr ?_
 refine G.r (Runs.move rfl) ?_
 refine G.r (Runs.neq rfl rfl) ?_
 refine G.nt ?_
 refine W.ite rfl (fun c18 => ?_) (fun c18 => ?_)
 ·refine W.sr ?_
  refine G.r (Runs.move rfl) ?_
  refine G.r (Runs.assign rfl) ?_
  refine G.r (Runs.assign rfl) ?_
  refine G.nt ?_
  refine W.sub (L' := [(3, _), (2, _)]) (Sub.cons rfl (Sub.cons rfl Sub.nil)) ?_
  refine W.ret ?_
  refine V.then_ret ?_
  exact V.ret2 rfl rfl rfl (I) Fit.m ⟨rfl, rfl⟩
 ·exact absurd he c18

theorem RGreat_ok {κ : Ctx} {I : List Item} {n : Net} {v : Value} (hl : Sl κ I v n.arcs) (hok : n.Ok) :
    CallS Try.prog κ 27 [.agg #[I64 (n.nodes), I64 (n.source), I64 (n.sink), v]] I (fun r J => ∃ a c side, r = .tuple #[.slice a side.length c, I64 0] ∧ GreatL n side ∧ J = vc 3 (.slice a side.length c) side :: I) := by
 have hlim := hok.lim
 have hsnk := hok.snk
 have hsrc := hok.src
 refine CallS.enter (L := [(0, .agg #[I64 (n.nodes), I64 (n.source), I64 (n.sink), v])]) Try.func27 rfl rfl rfl rfl ?_
 refine W.sr ?_
 refine G.e (Eff.box (cs := [_, _, _, _]) rfl rfl rfl) ?_
 rintro _ _ ⟨b1, rfl, rfl⟩
 refine G.r (Runs.assign rfl) ?_
 refine G.r (Runs.assign rfl) ?_
 refine G.nt ?_
 refine W.sr ?_
 refine G.r (Runs.lds (vs := [_, _, _, _]) ty30) ?_
 refine G.e (Eff.call call24 rfl rfl (RMax_ok (n := n) (Sl.f hl) hok)) ?_
 rintro _ _ ⟨_, _, ⟨ad2, cp3, f4, ad5, cp6, sd7, vl8, rfl, hf4, rfl⟩, rfl, rfl⟩
 have hff := hf4.flow
 have hffl := hff.len
 obtain ⟨R, hR, _⟩ := hf4.side
 refine G.r (Runs.move rfl) ?_
 refine G.r (Runs.extract rfl rfl) ?_
 refine G.r (Runs.extract rfl rfl) ?_
 refine G.e (Eff.alloc ty24 rfl) ?_
 rintro _ _ ⟨b9, rfl, rfl⟩
 refine G.e (Eff.st (cs := [_, _, _]) (vs := [_, _, _]) (cs' := [_, _, _]) ty24) ?_
 rintro _ _ ⟨rfl, rfl⟩
 refine G.r (Runs.assign rfl) ?_
 refine G.nt ?_
 refine W.seq ?_
 refine W.sr ?_
 refine G.r (Runs.move rfl) ?_
 refine G.r (Runs.neq rfl rfl) ?_
 refine G.nt ?_
 refine W.ite rfl (fun c18 => ?_) (fun c18 => ?_)
 ·exact absurd rfl c18
 ·refine W.skip ?_
  refine V.then ?_
  refine W.sr ?_
  refine G.r (Runs.fieldAddr fld30_2 rfl) ?_
  refine G.r (Runs.ld ty3) ?_
  refine G.e (Eff.bs (α := Int) (cs := [_]) (xs := [n.sink]) Try.underlying22 ty3 rfl rfl (by decide) (by decide) rfl rfl rfl rfl) ?_
  rintro _ _ ⟨ad10, rfl, rfl⟩
  refine G.r (Runs.assign rfl) ?_
  refine G.nt ?_
  refine W.sub (L' := [(6, _), (4, _), (1, _)]) (Sub.cons rfl (Sub.cons rfl (Sub.cons rfl Sub.nil))) ?_
  refine W.seq ?_
  refine W.sr ?_
  refine G.r (Runs.assign rfl) ?_
  refine G.nt ?_
  refine W.block ?_
  refine W.loop (σ := Nat × (Option Addr) × Nat × (List Int)) (fun s => ([(1, .pointer (some ⟨b1, 0, none⟩)), (4, .pointer (some ⟨b9, 0, none⟩)), (6, .slice s.2.1 s.2.2.2.length s.2.2.1), (7, I64 (((s.1 : Nat) : Int)))] : Env)) (fun s => vc 3 (.slice s.2.1 s.2.2.2.length s.2.2.1) (s.2.2.2) :: blk b9 [.slice ad2 f4.length cp3, I64 (vl8), .slice ad5 sd7.length cp6] 24 :: vc 3 (.slice ad5 sd7.length cp6) (sd7) :: vc 3 (.slice ad2 f4.length cp3) (f4) :: blk b1 [I64 (n.nodes), I64 (n.source), I64 (n.sink), v] 30 :: I) (fun s => (BI n f4 s.2.2.2 s.1 0 0) ∧ (s.1 ≤ s.2.2.2.length)) (fun s => n.nodes.toNat - s.1) (0, ad10, 1, [n.sink]) (show (BI n f4 ([n.sink] : List Int) (0 : Nat) 0 0) ∧ ((0 : Nat) ≤ ([n.sink] : List Int).length) from ⟨(BI.start hok), (by omega)⟩) (Sub.cons rfl (Sub.cons rfl (Sub.cons (lookV rfl (by first | rfl | simp)) (Sub.cons (lookI rfl (by omega)) Sub.nil)))) (show Fit κ _ (vc 3 (.slice (ad10) ([n.sink]).length (1)) (([n.sink])) :: blk b9 [.slice ad2 f4.length cp3, I64 (vl8), .slice ad5 sd7.length cp6] 24 :: vc 3 (.slice ad5 sd7.length cp6) (sd7) :: vc 3 (.slice ad2 f4.length cp3) (f4) :: blk b1 [I64 (n.nodes), I64 (n.source), I64 (n.sink), v] 30 :: I) from Fit.sub) ?_
  rintro ⟨i, a, c, back⟩ hp
  obtain ⟨hB, hi⟩ : (BI n f4 back i 0 0) ∧ (i ≤ back.length) := hp
  show W Try.prog κ 109 _ _ ([(1, .pointer (some ⟨b1, 0, none⟩)), (4, .pointer (some ⟨b9, 0, none⟩)), (6, .slice a back.length c), (7, I64 (((i : Nat) : Int)))] : Env) (vc 3 (.slice a back.length c) (back) :: blk b9 [.slice ad2 f4.length cp3, I64 (vl8), .slice ad5 sd7.length cp6] 24 :: vc 3 (.slice ad5 sd7.length cp6) (sd7) :: vc 3 (.slice ad2 f4.length cp3) (f4) :: blk b1 [I64 (n.nodes), I64 (n.source), I64 (n.sink), v] 30 :: I)
  have hroom := hB.room
  refine W.seq ?_
  refine W.sr ?_
  refine G.r (Runs.move rfl) ?_
  refine G.r (Runs.move rfl) ?_
  refine G.r (Runs.lens Try.underlying22 rfl) ?_
  refine G.r (Runs.lss rfl rfl) ?_
  refine G.nt ?_
  refine W.ite rfl (fun c26 => ?_) (fun c26 => ?_)
  ·refine W.skip ?_
   refine V.then ?_
   refine W.seq ?_
   refine W.block ?_
   refine W.sr ?_
   refine G.r (Runs.fieldAddr fld30_3 rfl) ?_
   refine G.r (Runs.ld ty28) ?_
   refine G.r (Runs.lenT (α := Arc) (xs := n.arcs) Try.underlying28 rfl (Sl.f hl)) ?_
   refine G.r (Runs.move rfl) ?_
   refine G.nt ?_
   refine W.block ?_
   refine W.loop (σ := Nat × (Option Addr) × Nat × (List Int)) (fun s => ([(1, .pointer (some ⟨b1, 0, none⟩)), (4, .pointer (some ⟨b9, 0, none⟩)), (6, .slice s.2.1 s.2.2.2.length s.2.2.1), (7, I64 (((i : Nat) : Int))), (30, v), (31, I64 (((n.arcs.length : Nat) : Int))), (32, I64 (((s.1 : Nat) : Int)))] : Env)) (fun s => vc 3 (.slice s.2.1 s.2.2.2.length s.2.2.1) (s.2.2.2) :: blk b9 [.slice ad2 f4.length cp3, I64 (vl8), .slice ad5 sd7.length cp6] 24 :: vc 3 (.slice ad5 sd7.length cp6) (sd7) :: vc 3 (.slice ad2 f4.length cp3) (f4) :: blk b1 [I64 (n.nodes), I64 (n.source), I64 (n.sink), v] 30 :: I) (fun s => (s.1 ≤ n.arcs.length) ∧ (BI n f4 s.2.2.2 i s.1 s.1) ∧ (i < s.2.2.2.length)) (fun s => n.arcs.length - s.1) (0, a, c, back) (show ((0 : Nat) ≤ n.arcs.length) ∧ (BI n f4 (back : List Int) i (0 : Nat) (0 : Nat)) ∧ (i < (back : List Int).length) from ⟨(by omega), hB, (by omega)⟩) (Sub.cons rfl (Sub.cons rfl (Sub.cons (lookV rfl (by first | rfl | simp)) (Sub.cons rfl (Sub.cons rfl (Sub.cons rfl (Sub.cons (lookI rfl (by omega)) Sub.nil))))))) (show Fit κ _ (vc 3 (.slice (a) (back).length (c)) ((back)) :: blk b9 [.slice ad2 f4.length cp3, I64 (vl8), .slice ad5 sd7.length cp6] 24 :: vc 3 (.slice ad5 sd7.length cp6) (sd7) :: vc 3 (.slice ad2 f4.length cp3) (f4) :: blk b1 [I64 (n.nodes), I64 (n.source), I64 (n.sink), v] 30 :: I) from Fit.sub) ?_
   rintro ⟨k, a1, c1, back1⟩ hp
   obtain ⟨hk, hB1, hi1⟩ : (k ≤ n.arcs.length) ∧ (BI n f4 back1 i k k) ∧ (i < back1.length) := hp
   show W Try.prog κ 109 _ _ ([(1, .pointer (some ⟨b1, 0, none⟩)), (4, .pointer (some ⟨b9, 0, none⟩)), (6, .slice a1 back1.length c1), (7, I64 (((i : Nat) : Int))), (30, v), (31, I64 (((n.arcs.length : Nat) : Int))), (32, I64 (((k : Nat) : Int)))] : Env) (vc 3 (.slice a1 back1.length c1) (back1) :: blk b9 [.slice ad2 f4.length cp3, I64 (vl8), .slice ad5 sd7.length cp6] 24 :: vc 3 (.slice ad5 sd7.length cp6) (sd7) :: vc 3 (.slice ad2 f4.length cp3) (f4) :: blk b1 [I64 (n.nodes), I64 (n.source), I64 (n.sink), v] 30 :: I)
   have hroom1 := hB1.room
   refine W.sr ?_
   refine G.r (Runs.lss rfl rfl) ?_
   refine G.nt ?_
   refine W.seq ?_
   refine W.ite rfl (fun c33 => ?_) (fun c33 => ?_)
   ·refine W.skip ?_
    refine V.then ?_
    refine W.seq ?_
    refine W.block ?_
    refine W.sr ?_
    refine G.r (Runs.move rfl) ?_
    refine G.r (Runs.idx (α := Arc) (xs := n.arcs) Try.underlying28 ty43 rfl rfl (Sl.f hl) (by omega) (by omega)) ?_
    have hb := hok.arc (at_ n.arcs ((k : Nat) : Int)) (at_mem (by omega) (by omega))
    refine G.r (Runs.gets (α := Arc) (xs := n.arcs) ty43 rfl (Sl.f hl) (by omega) (by omega)) ?_
    refine G.e (Eff.alloc ty43 rfl) ?_
    rintro _ _ ⟨b11, rfl, rfl⟩
    refine G.r (Runs.assign rfl) ?_
    refine G.e (Eff.st (cs := [_, _, _]) (vs := [_, _, _]) (cs' := [_, _, _]) ty43) ?_
    rintro _ _ ⟨rfl, rfl⟩
    refine G.nt ?_
    refine W.cut (σ := (Option Addr) × Nat × (List Int)) (fun s => ([(1, .pointer (some ⟨b1, 0, none⟩)), (4, .pointer (some ⟨b9, 0, none⟩)), (6, .slice s.1 s.2.2.length s.2.1), (7, I64 (((i : Nat) : Int))), (8, I64 (((k : Nat) : Int))), (9, .pointer (some ⟨b11, 0, none⟩)), (30, v), (31, I64 (((n.arcs.length : Nat) : Int))), (32, I64 (((k : Nat) : Int)))] : Env)) (fun s => blk b11 [I64 ((at_ n.arcs ((k : Nat) : Int)).frm), I64 ((at_ n.arcs ((k : Nat) : Int)).dst), I64 ((at_ n.arcs ((k : Nat) : Int)).cap)] 43 :: vc 3 (.slice s.1 s.2.2.length s.2.1) (s.2.2) :: blk b9 [.slice ad2 f4.length cp3, I64 (vl8), .slice ad5 sd7.length cp6] 24 :: vc 3 (.slice ad5 sd7.length cp6) (sd7) :: vc 3 (.slice ad2 f4.length cp3) (f4) :: blk b1 [I64 (n.nodes), I64 (n.source), I64 (n.sink), v] 30 :: I) (fun s => (BI n f4 s.2.2 i (k + 1) k) ∧ (i < s.2.2.length)) ?_ ?_
    ·refine W.seq ?_
     refine W.drawn mixed ?_
     refine A.hold (blk b11 [I64 ((at_ n.arcs ((k : Nat) : Int)).frm), I64 ((at_ n.arcs ((k : Nat) : Int)).dst), I64 ((at_ n.arcs ((k : Nat) : Int)).cap)] 43 :: vc 3 (.slice a1 back1.length c1) (back1) :: blk b9 [.slice ad2 f4.length cp3, I64 (vl8), .slice ad5 sd7.length cp6] 24 :: vc 3 (.slice ad5 sd7.length cp6) (sd7) :: vc 3 (.slice ad2 f4.length cp3) (f4) :: blk b1 [I64 (n.nodes), I64 (n.source), I64 (n.sink), v] 30 :: I) 24 ?_
     refine D.r 0 rfl (Runs.fieldAddr fld43_1 rfl) ?_
     refine D.r 1 rfl (Runs.ld ty3) ?_
     refine D.r 2 rfl (Runs.move rfl) ?_
     refine D.r 3 rfl (Runs.move rfl) ?_
     refine D.r 4 rfl (Runs.idx (α := Int) (xs := back1) Try.underlying22 ty3 rfl rfl Sl.o (by omega) (by omega)) ?_
     refine D.r 5 rfl (Runs.get (xs := back1) ty3 rfl Sl.o (by omega) (by omega)) ?_
     refine D.r 6 rfl (Runs.eql rfl rfl) ?_
     refine D.r 7 rfl (Runs.move rfl) ?_
     refine D.split (d := 44) rfl (fun g44 => ?_) (fun g44 => ?_)
     ·refine D.ro 8 rfl (Runs.fieldAddr fld24_0 rfl) ?_
      refine D.ro 9 rfl (Runs.ld ty22) ?_
      refine D.ro 10 rfl (Runs.move rfl) ?_
      refine D.ro 11 rfl (Runs.idx (α := Int) (xs := f4) Try.underlying22 ty3 rfl rfl Sl.o (by omega) (by omega)) ?_
      refine D.ro 12 rfl (Runs.get (xs := f4) ty3 rfl Sl.o (by omega) (by omega)) ?_
      refine D.ro 13 rfl (Runs.fieldAddr fld43_2 rfl) ?_
      refine D.ro 14 rfl (Runs.ld ty3) ?_
      refine D.ro 15 rfl (Runs.lss rfl rfl) ?_
      refine D.r 16 rfl (Runs.pickt rfl rfl) ?_
      refine D.r 17 rfl (Runs.move rfl) ?_
      refine D.split (d := 54) rfl (fun g54 => ?_) (fun g54 => ?_)
      ·refine D.ro 18 rfl (Runs.move rfl) ?_
       refine D.ro 19 rfl (Runs.fieldAddr fld43_0 rfl) ?_
       refine D.ro 20 rfl (Runs.ld ty3) ?_
       refine D.step (rs := [21]) (by kernel_rfl) rfl rfl (all1 ?_)
       refine Step.eff rfl (Wanted.on rfl rfl rfl) (Eff.call call95 rfl rfl (RHas_ok Sl.o ((at_ n.arcs ((k : Nat) : Int)).frm))) ?_
       rintro _ _ ⟨_, _, ⟨rfl, rfl⟩, rfl, rfl⟩
       refine ⟨Fit.m, ?_⟩
       refine D.ro 22 rfl (Runs.notd rfl) ?_
       refine D.r 23 rfl (Runs.pickt rfl rfl) ?_
       refine D.done (by kernel_rfl) ?_
       refine V.then ?_
       refine W.sub (L' := [(60, _), (8, _), (9, _), (1, _), (4, _), (6, _), (7, _), (30, _), (31, _), (32, _)]) (Sub.cons rfl (Sub.cons rfl (Sub.cons rfl (Sub.cons rfl (Sub.cons rfl (Sub.cons rfl (Sub.cons rfl (Sub.cons rfl (Sub.cons rfl (Sub.cons rfl Sub.nil)))))))))) ?_
       refine W.ite rfl (fun c60 => ?_) (fun c60 => ?_)
       ·refine W.region ?_
        refine G.r (Runs.move rfl) ?_
        refine G.r (Runs.fieldAddr fld43_0 rfl) ?_
        refine G.r (Runs.ld ty3) ?_
        refine G.e (Eff.bs (α := Int) (cs := [_]) (xs := [(at_ n.arcs ((k : Nat) : Int)).frm]) Try.underlying22 ty3 rfl rfl (by decide) (by decide) rfl rfl rfl rfl) ?_
        rintro _ _ ⟨ad12, rfl, rfl⟩
        refine G.e (Eff.app (α := Int) (e := 3) (xs := back1) (ys := ([(at_ n.arcs ((k : Nat) : Int)).frm] : List Int)) Try.underlying22 ty3 rfl rfl rfl (by repeat (first | exact List.mem_cons_self | apply List.mem_cons_of_mem)) Sl.o (by simp only [List.length_cons, List.length_nil]; omega) (by decide) rfl (fun _ _ => (by repeat (first | exact At.head _ _ _ | apply At.tail)))) ?_
        rintro _ _ ⟨ad13, cp14, rfl, rfl⟩
        have hput1 := hB1.put hi1 (y := (at_ n.arcs ((k : Nat) : Int)).frm) (by omega) c60 (.inl ⟨k, by omega, rfl, g54, by rw [g44]; exact at_mem (by omega) (by omega)⟩)
        refine G.r (Runs.assign rfl) ?_
        refine G.nil ?_
        exact V.mid ((ad13), (cp14), (back1 ++ ([(at_ n.arcs ((k : Nat) : Int)).frm] : List Int))) (show (BI n f4 (back1 ++ ([(at_ n.arcs ((k : Nat) : Int)).frm] : List Int) : List Int) i (k + 1) k) ∧ (i < (back1 ++ ([(at_ n.arcs ((k : Nat) : Int)).frm] : List Int) : List Int).length) from ⟨(by first | exact hB1.fwd (fun a _ => absurd a g44) | exact hB1.fwd (fun _ b => absurd b g54) | exact hB1.fwd (fun _ _ => Decidable.of_not_not c60) | exact hput1.fwd (fun _ _ => List.mem_append_right _ (List.mem_singleton.2 rfl))), (by first | exact hi1 | (rw [List.length_append]; omega))⟩) (Sub.cons rfl (Sub.cons rfl (Sub.cons (lookV rfl (by first | rfl | simp)) (Sub.cons rfl (Sub.cons rfl (Sub.cons rfl (Sub.cons rfl (Sub.cons rfl (Sub.cons rfl Sub.nil))))))))) (show Fit κ _ (blk b11 [I64 ((at_ n.arcs ((k : Nat) : Int)).frm), I64 ((at_ n.arcs ((k : Nat) : Int)).dst), I64 ((at_ n.arcs ((k : Nat) : Int)).cap)] 43 :: vc 3 (.slice (ad13) (back1 ++ ([(at_ n.arcs ((k : Nat) : Int)).frm] : List Int)).length (cp14)) ((back1 ++ ([(at_ n.arcs ((k : Nat) : Int)).frm] : List Int))) :: blk b9 [.slice ad2 f4.length cp3, I64 (vl8), .slice ad5 sd7.length cp6] 24 :: vc 3 (.slice ad5 sd7.length cp6) (sd7) :: vc 3 (.slice ad2 f4.length cp3) (f4) :: blk b1 [I64 (n.nodes), I64 (n.source), I64 (n.sink), v] 30 :: I) from Fit.sub)
       ·refine W.skip ?_
        exact V.mid ((a1), (c1), (back1)) (show (BI n f4 (back1 : List Int) i (k + 1) k) ∧ (i < (back1 : List Int).length) from ⟨(by first | exact hB1.fwd (fun a _ => absurd a g44) | exact hB1.fwd (fun _ b => absurd b g54) | exact hB1.fwd (fun _ _ => Decidable.of_not_not c60) | exact hput1.fwd (fun _ _ => List.mem_append_right _ (List.mem_singleton.2 rfl))), (by first | exact hi1 | (rw [List.length_append]; omega))⟩) (Sub.cons rfl (Sub.cons rfl (Sub.cons (lookV rfl (by first | rfl | simp)) (Sub.cons rfl (Sub.cons rfl (Sub.cons rfl (Sub.cons rfl (Sub.cons rfl (Sub.cons rfl Sub.nil))))))))) (show Fit κ _ (blk b11 [I64 ((at_ n.arcs ((k : Nat) : Int)).frm), I64 ((at_ n.arcs ((k : Nat) : Int)).dst), I64 ((at_ n.arcs ((k : Nat) : Int)).cap)] 43 :: vc 3 (.slice (a1) (back1).length (c1)) ((back1)) :: blk b9 [.slice ad2 f4.length cp3, I64 (vl8), .slice ad5 sd7.length cp6] 24 :: vc 3 (.slice ad5 sd7.length cp6) (sd7) :: vc 3 (.slice ad2 f4.length cp3) (f4) :: blk b1 [I64 (n.nodes), I64 (n.source), I64 (n.sink), v] 30 :: I) from Fit.sub)
      ·refine D.po 18 rfl ?_
       refine D.po 19 rfl ?_
       refine D.po 20 rfl ?_
       refine D.po 21 rfl ?_
       refine D.po 22 rfl ?_
       refine D.r 23 rfl (Runs.pickf rfl rfl) ?_
       refine D.done (by kernel_rfl) ?_
       refine V.then ?_
       refine W.sub (L' := [(60, _), (8, _), (9, _), (1, _), (4, _), (6, _), (7, _), (30, _), (31, _), (32, _)]) (Sub.cons rfl (Sub.cons rfl (Sub.cons rfl (Sub.cons rfl (Sub.cons rfl (Sub.cons rfl (Sub.cons rfl (Sub.cons rfl (Sub.cons rfl (Sub.cons rfl Sub.nil)))))))))) ?_
       refine W.no rfl ?_
       refine W.skip ?_
       exact V.mid ((a1), (c1), (back1)) (show (BI n f4 (back1 : List Int) i (k + 1) k) ∧ (i < (back1 : List Int).length) from ⟨(by first | exact hB1.fwd (fun a _ => absurd a g44) | exact hB1.fwd (fun _ b => absurd b g54) | exact hB1.fwd (fun _ _ => Decidable.of_not_not c60) | exact hput1.fwd (fun _ _ => List.mem_append_right _ (List.mem_singleton.2 rfl))), (by first | exact hi1 | (rw [List.length_append]; omega))⟩) (Sub.cons rfl (Sub.cons rfl (Sub.cons (lookV rfl (by first | rfl | simp)) (Sub.cons rfl (Sub.cons rfl (Sub.cons rfl (Sub.cons rfl (Sub.cons rfl (Sub.cons rfl Sub.nil))))))))) (show Fit κ _ (blk b11 [I64 ((at_ n.arcs ((k : Nat) : Int)).frm), I64 ((at_ n.arcs ((k : Nat) : Int)).dst), I64 ((at_ n.arcs ((k : Nat) : Int)).cap)] 43 :: vc 3 (.slice (a1) (back1).length (c1)) ((back1)) :: blk b9 [.slice ad2 f4.length cp3, I64 (vl8), .slice ad5 sd7.length cp6] 24 :: vc 3 (.slice ad5 sd7.length cp6) (sd7) :: vc 3 (.slice ad2 f4.length cp3) (f4) :: blk b1 [I64 (n.nodes), I64 (n.source), I64 (n.sink), v] 30 :: I) from Fit.sub)
     ·refine D.po 8 rfl ?_
      refine D.po 9 rfl ?_
      refine D.po 10 rfl ?_
      refine D.po 11 rfl ?_
      refine D.po 12 rfl ?_
      refine D.po 13 rfl ?_
      refine D.po 14 rfl ?_
      refine D.po 15 rfl ?_
      refine D.r 16 rfl (Runs.pickf rfl rfl) ?_
      refine D.r 17 rfl (Runs.move rfl) ?_
      refine D.po 18 rfl ?_
      refine D.po 19 rfl ?_
      refine D.po 20 rfl ?_
      refine D.po 21 rfl ?_
      refine D.po 22 rfl ?_
      refine D.r 23 rfl (Runs.pickf rfl rfl) ?_
      refine D.done (by kernel_rfl) ?_
      refine V.then ?_
      refine W.sub (L' := [(60, _), (8, _), (9, _), (1, _), (4, _), (6, _), (7, _), (30, _), (31, _), (32, _)]) (Sub.cons rfl (Sub.cons rfl (Sub.cons rfl (Sub.cons rfl (Sub.cons rfl (Sub.cons rfl (Sub.cons rfl (Sub.cons rfl (Sub.cons rfl (Sub.cons rfl Sub.nil)))))))))) ?_
      refine W.no rfl ?_
      refine W.skip ?_
      exact V.mid ((a1), (c1), (back1)) (show (BI n f4 (back1 : List Int) i (k + 1) k) ∧ (i < (back1 : List Int).length) from ⟨(by first | exact hB1.fwd (fun a _ => absurd a g44) | exact hB1.fwd (fun _ b => absurd b g54) | exact hB1.fwd (fun _ _ => Decidable.of_not_not c60) | exact hput1.fwd (fun _ _ => List.mem_append_right _ (List.mem_singleton.2 rfl))), (by first | exact hi1 | (rw [List.length_append]; omega))⟩) (Sub.cons rfl (Sub.cons rfl (Sub.cons (lookV rfl (by first | rfl | simp)) (Sub.cons rfl (Sub.cons rfl (Sub.cons rfl (Sub.cons rfl (Sub.cons rfl (Sub.cons rfl Sub.nil))))))))) (show Fit κ _ (blk b11 [I64 ((at_ n.arcs ((k : Nat) : Int)).frm), I64 ((at_ n.arcs ((k : Nat) : Int)).dst), I64 ((at_ n.arcs ((k : Nat) : Int)).cap)] 43 :: vc 3 (.slice (a1) (back1).length (c1)) ((back1)) :: blk b9 [.slice ad2 f4.length cp3, I64 (vl8), .slice ad5 sd7.length cp6] 24 :: vc 3 (.slice ad5 sd7.length cp6) (sd7) :: vc 3 (.slice ad2 f4.length cp3) (f4) :: blk b1 [I64 (n.nodes), I64 (n.source), I64 (n.sink), v] 30 :: I) from Fit.sub)
    ·rintro ⟨a2, c2, back2⟩ hp
     obtain ⟨hB2, hi2⟩ : (BI n f4 back2 i (k + 1) k) ∧ (i < back2.length) := hp
     show W Try.prog κ 109 _ _ ([(1, .pointer (some ⟨b1, 0, none⟩)), (4, .pointer (some ⟨b9, 0, none⟩)), (6, .slice a2 back2.length c2), (7, I64 (((i : Nat) : Int))), (8, I64 (((k : Nat) : Int))), (9, .pointer (some ⟨b11, 0, none⟩)), (30, v), (31, I64 (((n.arcs.length : Nat) : Int))), (32, I64 (((k : Nat) : Int)))] : Env) (blk b11 [I64 ((at_ n.arcs ((k : Nat) : Int)).frm), I64 ((at_ n.arcs ((k : Nat) : Int)).dst), I64 ((at_ n.arcs ((k : Nat) : Int)).cap)] 43 :: vc 3 (.slice a2 back2.length c2) (back2) :: blk b9 [.slice ad2 f4.length cp3, I64 (vl8), .slice ad5 sd7.length cp6] 24 :: vc 3 (.slice ad5 sd7.length cp6) (sd7) :: vc 3 (.slice ad2 f4.length cp3) (f4) :: blk b1 [I64 (n.nodes), I64 (n.source), I64 (n.sink), v] 30 :: I)
     have hroom2 := hB2.room
     refine W.seq ?_
     refine W.drawn mixed ?_
     refine A.hold (blk b11 [I64 ((at_ n.arcs ((k : Nat) : Int)).frm), I64 ((at_ n.arcs ((k : Nat) : Int)).dst), I64 ((at_ n.arcs ((k : Nat) : Int)).cap)] 43 :: vc 3 (.slice a2 back2.length c2) (back2) :: blk b9 [.slice ad2 f4.length cp3, I64 (vl8), .slice ad5 sd7.length cp6] 24 :: vc 3 (.slice ad5 sd7.length cp6) (sd7) :: vc 3 (.slice ad2 f4.length cp3) (f4) :: blk b1 [I64 (n.nodes), I64 (n.source), I64 (n.sink), v] 30 :: I) 22 ?_
     refine D.r 0 rfl (Runs.fieldAddr fld43_0 rfl) ?_
     refine D.r 1 rfl (Runs.ld ty3) ?_
     refine D.r 2 rfl (Runs.move rfl) ?_
     refine D.r 3 rfl (Runs.move rfl) ?_
     refine D.r 4 rfl (Runs.idx (α := Int) (xs := back2) Try.underlying22 ty3 rfl rfl Sl.o (by omega) (by omega)) ?_
     refine D.r 5 rfl (Runs.get (xs := back2) ty3 rfl Sl.o (by omega) (by omega)) ?_
     refine D.r 6 rfl (Runs.eql rfl rfl) ?_
     refine D.r 7 rfl (Runs.move rfl) ?_
     refine D.split (d := 73) rfl (fun g73 => ?_) (fun g73 => ?_)
     ·refine D.ro 8 rfl (Runs.fieldAddr fld24_0 rfl) ?_
      refine D.ro 9 rfl (Runs.ld ty22) ?_
      refine D.ro 10 rfl (Runs.move rfl) ?_
      refine D.ro 11 rfl (Runs.idx (α := Int) (xs := f4) Try.underlying22 ty3 rfl rfl Sl.o (by omega) (by omega)) ?_
      refine D.ro 12 rfl (Runs.get (xs := f4) ty3 rfl Sl.o (by omega) (by omega)) ?_
      refine D.ro 13 rfl (Runs.gtr rfl rfl) ?_
      refine D.r 14 rfl (Runs.pickt rfl rfl) ?_
      refine D.r 15 rfl (Runs.move rfl) ?_
      refine D.split (d := 81) rfl (fun g81 => ?_) (fun g81 => ?_)
      ·refine D.ro 16 rfl (Runs.move rfl) ?_
       refine D.ro 17 rfl (Runs.fieldAddr fld43_1 rfl) ?_
       refine D.ro 18 rfl (Runs.ld ty3) ?_
       refine D.step (rs := [19]) (by kernel_rfl) rfl rfl (all1 ?_)
       refine Step.eff rfl (Wanted.on rfl rfl rfl) (Eff.call call95 rfl rfl (RHas_ok Sl.o ((at_ n.arcs ((k : Nat) : Int)).dst))) ?_
       rintro _ _ ⟨_, _, ⟨rfl, rfl⟩, rfl, rfl⟩
       refine ⟨Fit.m, ?_⟩
       refine D.ro 20 rfl (Runs.notd rfl) ?_
       refine D.r 21 rfl (Runs.pickt rfl rfl) ?_
       refine D.done (by kernel_rfl) ?_
       refine V.then ?_
       refine W.sub (L' := [(87, _), (1, _), (4, _), (6, _), (7, _), (9, _), (30, _), (31, _), (32, _)]) (Sub.cons rfl (Sub.cons rfl (Sub.cons rfl (Sub.cons rfl (Sub.cons rfl (Sub.cons rfl (Sub.cons rfl (Sub.cons rfl (Sub.cons rfl Sub.nil))))))))) ?_
       refine W.ite rfl (fun c87 => ?_) (fun c87 => ?_)
       ·refine W.region ?_
        refine G.r (Runs.move rfl) ?_
        refine G.r (Runs.fieldAddr fld43_1 rfl) ?_
        refine G.r (Runs.ld ty3) ?_
        refine G.e (Eff.bs (α := Int) (cs := [_]) (xs := [(at_ n.arcs ((k : Nat) : Int)).dst]) Try.underlying22 ty3 rfl rfl (by decide) (by decide) rfl rfl rfl rfl) ?_
        rintro _ _ ⟨ad15, rfl, rfl⟩
        refine G.e (Eff.app (α := Int) (e := 3) (xs := back2) (ys := ([(at_ n.arcs ((k : Nat) : Int)).dst] : List Int)) Try.underlying22 ty3 rfl rfl rfl (by repeat (first | exact List.mem_cons_self | apply List.mem_cons_of_mem)) Sl.o (by simp only [List.length_cons, List.length_nil]; omega) (by decide) rfl (fun _ _ => (by repeat (first | exact At.head _ _ _ | apply At.tail)))) ?_
        rintro _ _ ⟨ad16, cp17, rfl, rfl⟩
        have hput2 := hB2.put hi2 (y := (at_ n.arcs ((k : Nat) : Int)).dst) (by omega) c87 (.inr ⟨k, by omega, rfl, g81, by rw [g73]; exact at_mem (by omega) (by omega)⟩)
        refine G.r (Runs.assign rfl) ?_
        refine G.nil ?_
        refine V.block_normal ?_
        refine V.then ?_
        refine W.sub (L' := [(6, _), (1, _), (4, _), (7, _), (30, _), (31, _), (32, _)]) (Sub.cons rfl (Sub.cons rfl (Sub.cons rfl (Sub.cons rfl (Sub.cons rfl (Sub.cons rfl (Sub.cons rfl Sub.nil))))))) ?_
        refine W.region ?_
        refine G.r (Runs.add rfl rfl (by unfold InR; omega)) ?_
        refine G.r (Runs.move rfl) ?_
        refine G.nil ?_
        exact V.next ((k + 1), (ad16), (cp17), (back2 ++ ([(at_ n.arcs ((k : Nat) : Int)).dst] : List Int))) (show ((k + 1 : Nat) ≤ n.arcs.length) ∧ (BI n f4 (back2 ++ ([(at_ n.arcs ((k : Nat) : Int)).dst] : List Int) : List Int) i (k + 1 : Nat) (k + 1 : Nat)) ∧ (i < (back2 ++ ([(at_ n.arcs ((k : Nat) : Int)).dst] : List Int) : List Int).length) from ⟨(by omega), (by first | exact hB2.bwd (fun a _ => absurd a g73) | exact hB2.bwd (fun _ b => absurd b g81) | exact hB2.bwd (fun _ _ => Decidable.of_not_not c87) | exact hput2.bwd (fun _ _ => List.mem_append_right _ (List.mem_singleton.2 rfl))), (by first | exact hi2 | (rw [List.length_append]; omega))⟩) (show n.arcs.length - (k + 1 : Nat) < n.arcs.length - k from (by omega)) (Sub.cons rfl (Sub.cons rfl (Sub.cons (lookV rfl (by first | rfl | simp)) (Sub.cons rfl (Sub.cons rfl (Sub.cons rfl (Sub.cons (lookI rfl (by omega)) Sub.nil))))))) (show Fit κ _ (vc 3 (.slice (ad16) (back2 ++ ([(at_ n.arcs ((k : Nat) : Int)).dst] : List Int)).length (cp17)) ((back2 ++ ([(at_ n.arcs ((k : Nat) : Int)).dst] : List Int))) :: blk b9 [.slice ad2 f4.length cp3, I64 (vl8), .slice ad5 sd7.length cp6] 24 :: vc 3 (.slice ad5 sd7.length cp6) (sd7) :: vc 3 (.slice ad2 f4.length cp3) (f4) :: blk b1 [I64 (n.nodes), I64 (n.source), I64 (n.sink), v] 30 :: I) from Fit.sub)
       ·refine W.skip ?_
        refine V.block_normal ?_
        refine V.then ?_
        refine W.region ?_
        refine G.r (Runs.add rfl rfl (by unfold InR; omega)) ?_
        refine G.r (Runs.move rfl) ?_
        refine G.nil ?_
        exact V.next ((k + 1), (a2), (c2), (back2)) (show ((k + 1 : Nat) ≤ n.arcs.length) ∧ (BI n f4 (back2 : List Int) i (k + 1 : Nat) (k + 1 : Nat)) ∧ (i < (back2 : List Int).length) from ⟨(by omega), (by first | exact hB2.bwd (fun a _ => absurd a g73) | exact hB2.bwd (fun _ b => absurd b g81) | exact hB2.bwd (fun _ _ => Decidable.of_not_not c87) | exact hput2.bwd (fun _ _ => List.mem_append_right _ (List.mem_singleton.2 rfl))), (by first | exact hi2 | (rw [List.length_append]; omega))⟩) (show n.arcs.length - (k + 1 : Nat) < n.arcs.length - k from (by omega)) (Sub.cons rfl (Sub.cons rfl (Sub.cons (lookV rfl (by first | rfl | simp)) (Sub.cons rfl (Sub.cons rfl (Sub.cons rfl (Sub.cons (lookI rfl (by omega)) Sub.nil))))))) (show Fit κ _ (vc 3 (.slice (a2) (back2).length (c2)) ((back2)) :: blk b9 [.slice ad2 f4.length cp3, I64 (vl8), .slice ad5 sd7.length cp6] 24 :: vc 3 (.slice ad5 sd7.length cp6) (sd7) :: vc 3 (.slice ad2 f4.length cp3) (f4) :: blk b1 [I64 (n.nodes), I64 (n.source), I64 (n.sink), v] 30 :: I) from Fit.sub)
      ·refine D.po 16 rfl ?_
       refine D.po 17 rfl ?_
       refine D.po 18 rfl ?_
       refine D.po 19 rfl ?_
       refine D.po 20 rfl ?_
       refine D.r 21 rfl (Runs.pickf rfl rfl) ?_
       refine D.done (by kernel_rfl) ?_
       refine V.then ?_
       refine W.sub (L' := [(87, _), (1, _), (4, _), (6, _), (7, _), (9, _), (30, _), (31, _), (32, _)]) (Sub.cons rfl (Sub.cons rfl (Sub.cons rfl (Sub.cons rfl (Sub.cons rfl (Sub.cons rfl (Sub.cons rfl (Sub.cons rfl (Sub.cons rfl Sub.nil))))))))) ?_
       refine W.no rfl ?_
       refine W.skip ?_
       refine V.block_normal ?_
       refine V.then ?_
       refine W.region ?_
       refine G.r (Runs.add rfl rfl (by unfold InR; omega)) ?_
       refine G.r (Runs.move rfl) ?_
       refine G.nil ?_
       exact V.next ((k + 1), (a2), (c2), (back2)) (show ((k + 1 : Nat) ≤ n.arcs.length) ∧ (BI n f4 (back2 : List Int) i (k + 1 : Nat) (k + 1 : Nat)) ∧ (i < (back2 : List Int).length) from ⟨(by omega), (by first | exact hB2.bwd (fun a _ => absurd a g73) | exact hB2.bwd (fun _ b => absurd b g81) | exact hB2.bwd (fun _ _ => Decidable.of_not_not c87) | exact hput2.bwd (fun _ _ => List.mem_append_right _ (List.mem_singleton.2 rfl))), (by first | exact hi2 | (rw [List.length_append]; omega))⟩) (show n.arcs.length - (k + 1 : Nat) < n.arcs.length - k from (by omega)) (Sub.cons rfl (Sub.cons rfl (Sub.cons (lookV rfl (by first | rfl | simp)) (Sub.cons rfl (Sub.cons rfl (Sub.cons rfl (Sub.cons (lookI rfl (by omega)) Sub.nil))))))) (show Fit κ _ (vc 3 (.slice (a2) (back2).length (c2)) ((back2)) :: blk b9 [.slice ad2 f4.length cp3, I64 (vl8), .slice ad5 sd7.length cp6] 24 :: vc 3 (.slice ad5 sd7.length cp6) (sd7) :: vc 3 (.slice ad2 f4.length cp3) (f4) :: blk b1 [I64 (n.nodes), I64 (n.source), I64 (n.sink), v] 30 :: I) from Fit.sub)
     ·refine D.po 8 rfl ?_
      refine D.po 9 rfl ?_
      refine D.po 10 rfl ?_
      refine D.po 11 rfl ?_
      refine D.po 12 rfl ?_
      refine D.po 13 rfl ?_
      refine D.r 14 rfl (Runs.pickf rfl rfl) ?_
      refine D.r 15 rfl (Runs.move rfl) ?_
      refine D.po 16 rfl ?_
      refine D.po 17 rfl ?_
      refine D.po 18 rfl ?_
      refine D.po 19 rfl ?_
      refine D.po 20 rfl ?_
      refine D.r 21 rfl (Runs.pickf rfl rfl) ?_
      refine D.done (by kernel_rfl) ?_
      refine V.then ?_
      refine W.sub (L' := [(87, _), (1, _), (4, _), (6, _), (7, _), (9, _), (30, _), (31, _), (32, _)]) (Sub.cons rfl (Sub.cons rfl (Sub.cons rfl (Sub.cons rfl (Sub.cons rfl (Sub.cons rfl (Sub.cons rfl (Sub.cons rfl (Sub.cons rfl Sub.nil))))))))) ?_
      refine W.no rfl ?_
      refine W.skip ?_
      refine V.block_normal ?_
      refine V.then ?_
      refine W.region ?_
      refine G.r (Runs.add rfl rfl (by unfold InR; omega)) ?_
      refine G.r (Runs.move rfl) ?_
      refine G.nil ?_
      exact V.next ((k + 1), (a2), (c2), (back2)) (show ((k + 1 : Nat) ≤ n.arcs.length) ∧ (BI n f4 (back2 : List Int) i (k + 1 : Nat) (k + 1 : Nat)) ∧ (i < (back2 : List Int).length) from ⟨(by omega), (by first | exact hB2.bwd (fun a _ => absurd a g73) | exact hB2.bwd (fun _ b => absurd b g81) | exact hB2.bwd (fun _ _ => Decidable.of_not_not c87) | exact hput2.bwd (fun _ _ => List.mem_append_right _ (List.mem_singleton.2 rfl))), (by first | exact hi2 | (rw [List.length_append]; omega))⟩) (show n.arcs.length - (k + 1 : Nat) < n.arcs.length - k from (by omega)) (Sub.cons rfl (Sub.cons rfl (Sub.cons (lookV rfl (by first | rfl | simp)) (Sub.cons rfl (Sub.cons rfl (Sub.cons rfl (Sub.cons (lookI rfl (by omega)) Sub.nil))))))) (show Fit κ _ (vc 3 (.slice (a2) (back2).length (c2)) ((back2)) :: blk b9 [.slice ad2 f4.length cp3, I64 (vl8), .slice ad5 sd7.length cp6] 24 :: vc 3 (.slice ad5 sd7.length cp6) (sd7) :: vc 3 (.slice ad2 f4.length cp3) (f4) :: blk b1 [I64 (n.nodes), I64 (n.source), I64 (n.sink), v] 30 :: I) from Fit.sub)
   ·refine W.exit ?_
    refine V.then_exit ?_
    refine V.then_exit ?_
    refine V.block_hit ?_
    refine V.block_normal ?_
    refine V.then ?_
    refine W.region ?_
    refine G.r (Runs.move rfl) ?_
    refine G.r (Runs.add rfl rfl (by unfold InR; omega)) ?_
    refine G.r (Runs.assign rfl) ?_
    refine G.nil ?_
    exact V.next ((i + 1), (a1), (c1), (back1)) (show (BI n f4 (back1 : List Int) (i + 1 : Nat) 0 0) ∧ ((i + 1 : Nat) ≤ (back1 : List Int).length) from ⟨(hB1.next (by omega)), (by omega)⟩) (show n.nodes.toNat - (i + 1 : Nat) < n.nodes.toNat - i from (by omega)) (Sub.cons rfl (Sub.cons rfl (Sub.cons (lookV rfl (by first | rfl | simp)) (Sub.cons (lookI rfl (by omega)) Sub.nil)))) (show Fit κ _ (vc 3 (.slice (a1) (back1).length (c1)) ((back1)) :: blk b9 [.slice ad2 f4.length cp3, I64 (vl8), .slice ad5 sd7.length cp6] 24 :: vc 3 (.slice ad5 sd7.length cp6) (sd7) :: vc 3 (.slice ad2 f4.length cp3) (f4) :: blk b1 [I64 (n.nodes), I64 (n.source), I64 (n.sink), v] 30 :: I) from Fit.sub)
  ·refine W.exit ?_
   refine V.then_exit ?_
   refine V.then_exit ?_
   refine V.block_hit ?_
   refine V.then ?_
   refine W.sr ?_
   refine G.r (Runs.assign rfl) ?_
   refine G.nt ?_
   refine W.seq ?_
   refine W.sr ?_
   refine G.r (Runs.fieldAddr fld30_0 rfl) ?_
   refine G.r (Runs.ld ty3) ?_
   refine G.r (Runs.move rfl) ?_
   refine G.nt ?_
   refine W.block ?_
   refine W.loop (σ := Nat × (Option Addr) × Nat × (List Int)) (fun s => ([(6, .slice a back.length c), (10, .slice s.2.1 s.2.2.2.length s.2.2.1), (95, I64 (n.nodes)), (96, I64 (((s.1 : Nat) : Int)))] : Env)) (fun s => vc 3 (.slice s.2.1 s.2.2.2.length s.2.2.1) (s.2.2.2) :: vc 3 (.slice a back.length c) (back) :: blk b9 [.slice ad2 f4.length cp3, I64 (vl8), .slice ad5 sd7.length cp6] 24 :: vc 3 (.slice ad5 sd7.length cp6) (sd7) :: vc 3 (.slice ad2 f4.length cp3) (f4) :: blk b1 [I64 (n.nodes), I64 (n.source), I64 (n.sink), v] 30 :: I) (fun s => (s.1 ≤ n.nodes.toNat) ∧ (s.2.2.2 = sideL s.1 (offL back))) (fun s => n.nodes.toNat - s.1) (0, none, 0, []) (show ((0 : Nat) ≤ n.nodes.toNat) ∧ (([] : List Int) = sideL (0 : Nat) (offL back)) from ⟨(by omega), rfl⟩) (Sub.cons rfl (Sub.cons (lookV rfl (by first | rfl | simp)) (Sub.cons rfl (Sub.cons (lookI rfl (by omega)) Sub.nil)))) (show Fit κ _ (vc 3 (.slice (none) ([]).length (0)) (([])) :: vc 3 (.slice a back.length c) (back) :: blk b9 [.slice ad2 f4.length cp3, I64 (vl8), .slice ad5 sd7.length cp6] 24 :: vc 3 (.slice ad5 sd7.length cp6) (sd7) :: vc 3 (.slice ad2 f4.length cp3) (f4) :: blk b1 [I64 (n.nodes), I64 (n.source), I64 (n.sink), v] 30 :: I) from (Fit.nilvc _ _)) ?_
   rintro ⟨k, a3, c3, out⟩ hp
   obtain ⟨hk, hs⟩ : (k ≤ n.nodes.toNat) ∧ (out = sideL k (offL back)) := hp
   show W Try.prog κ 109 _ _ ([(6, .slice a back.length c), (10, .slice a3 out.length c3), (95, I64 (n.nodes)), (96, I64 (((k : Nat) : Int)))] : Env) (vc 3 (.slice a3 out.length c3) (out) :: vc 3 (.slice a back.length c) (back) :: blk b9 [.slice ad2 f4.length cp3, I64 (vl8), .slice ad5 sd7.length cp6] 24 :: vc 3 (.slice ad5 sd7.length cp6) (sd7) :: vc 3 (.slice ad2 f4.length cp3) (f4) :: blk b1 [I64 (n.nodes), I64 (n.source), I64 (n.sink), v] 30 :: I)
   have hsl : out.length ≤ k := by rw [hs]; exact sideL_len _ _
   refine W.sr ?_
   refine G.r (Runs.lss rfl rfl) ?_
   refine G.nt ?_
   refine W.seq ?_
   refine W.ite rfl (fun c97 => ?_) (fun c97 => ?_)
   ·refine W.skip ?_
    refine V.then ?_
    refine W.seq ?_
    refine W.block ?_
    refine W.sr ?_
    refine G.r (Runs.move rfl) ?_
    refine G.r (Runs.assign rfl) ?_
    refine G.nt ?_
    refine W.sr ?_
    refine G.r (Runs.move rfl) ?_
    refine G.r (Runs.move rfl) ?_
    refine G.e (Eff.call call95 rfl rfl (RHas_ok Sl.o ((k : Nat) : Int))) ?_
    rintro _ _ ⟨_, _, ⟨rfl, rfl⟩, rfl, rfl⟩
    refine G.r (Runs.notd rfl) ?_
    refine G.nt ?_
    refine W.ite rfl (fun c102 => ?_) (fun c102 => ?_)
    ·refine W.region ?_
     refine G.r (Runs.move rfl) ?_
     refine G.r (Runs.move rfl) ?_
     refine G.e (Eff.bs (α := Int) (cs := [_]) (xs := [((k : Nat) : Int)]) Try.underlying22 ty3 rfl rfl (by decide) (by decide) rfl rfl rfl rfl) ?_
     rintro _ _ ⟨ad18, rfl, rfl⟩
     refine G.e (Eff.app (α := Int) (e := 3) (xs := out) (ys := ([((k : Nat) : Int)] : List Int)) Try.underlying22 ty3 rfl rfl rfl (by repeat (first | exact List.mem_cons_self | apply List.mem_cons_of_mem)) Sl.o (by simp only [List.length_cons, List.length_nil]; omega) (by decide) rfl (fun _ _ => (by repeat (first | exact At.head _ _ _ | apply At.tail)))) ?_
     rintro _ _ ⟨ad19, cp20, rfl, rfl⟩
     refine G.r (Runs.assign rfl) ?_
     refine G.nil ?_
     refine V.block_normal ?_
     refine V.then ?_
     refine W.sub (L' := [(10, _), (6, _), (95, _), (96, _)]) (Sub.cons rfl (Sub.cons rfl (Sub.cons rfl (Sub.cons rfl Sub.nil)))) ?_
     refine W.region ?_
     refine G.r (Runs.add rfl rfl (by unfold InR; omega)) ?_
     refine G.r (Runs.move rfl) ?_
     refine G.nil ?_
     exact V.next ((k + 1), (ad19), (cp20), (out ++ ([((k : Nat) : Int)] : List Int))) (show ((k + 1 : Nat) ≤ n.nodes.toNat) ∧ ((out ++ ([((k : Nat) : Int)] : List Int) : List Int) = sideL (k + 1 : Nat) (offL back)) from ⟨(by omega), (by first | (rw [hs, sideL_yes]; simp [offL]; exact c102) | (rw [hs, sideL_no]; simp [offL]; exact Decidable.of_not_not c102))⟩) (show n.nodes.toNat - (k + 1 : Nat) < n.nodes.toNat - k from (by omega)) (Sub.cons rfl (Sub.cons (lookV rfl (by first | rfl | simp)) (Sub.cons rfl (Sub.cons (lookI rfl (by omega)) Sub.nil)))) (show Fit κ _ (vc 3 (.slice (ad19) (out ++ ([((k : Nat) : Int)] : List Int)).length (cp20)) ((out ++ ([((k : Nat) : Int)] : List Int))) :: vc 3 (.slice a back.length c) (back) :: blk b9 [.slice ad2 f4.length cp3, I64 (vl8), .slice ad5 sd7.length cp6] 24 :: vc 3 (.slice ad5 sd7.length cp6) (sd7) :: vc 3 (.slice ad2 f4.length cp3) (f4) :: blk b1 [I64 (n.nodes), I64 (n.source), I64 (n.sink), v] 30 :: I) from Fit.sub)
    ·refine W.skip ?_
     refine V.block_normal ?_
     refine V.then ?_
     refine W.region ?_
     refine G.r (Runs.add rfl rfl (by unfold InR; omega)) ?_
     refine G.r (Runs.move rfl) ?_
     refine G.nil ?_
     exact V.next ((k + 1), (a3), (c3), (out)) (show ((k + 1 : Nat) ≤ n.nodes.toNat) ∧ ((out : List Int) = sideL (k + 1 : Nat) (offL back)) from ⟨(by omega), (by first | (rw [hs, sideL_yes]; simp [offL]; exact c102) | (rw [hs, sideL_no]; simp [offL]; exact Decidable.of_not_not c102))⟩) (show n.nodes.toNat - (k + 1 : Nat) < n.nodes.toNat - k from (by omega)) (Sub.cons rfl (Sub.cons (lookV rfl (by first | rfl | simp)) (Sub.cons rfl (Sub.cons (lookI rfl (by omega)) Sub.nil)))) (show Fit κ _ (vc 3 (.slice (a3) (out).length (c3)) ((out)) :: vc 3 (.slice a back.length c) (back) :: blk b9 [.slice ad2 f4.length cp3, I64 (vl8), .slice ad5 sd7.length cp6] 24 :: vc 3 (.slice ad5 sd7.length cp6) (sd7) :: vc 3 (.slice ad2 f4.length cp3) (f4) :: blk b1 [I64 (n.nodes), I64 (n.source), I64 (n.sink), v] 30 :: I) from Fit.sub)
   ·refine W.exit ?_
    refine V.then_exit ?_
    refine V.then_exit ?_
    refine V.block_hit ?_
    refine V.then ?_
    refine W.sr ?_
    refine G.r (Runs.move rfl) ?_
    refine G.r (Runs.assign rfl) ?_
    refine G.r (Runs.assign rfl) ?_
    refine G.nt ?_
    refine W.ret ?_
    have hkn : k = n.nodes.toNat := by omega
    subst hkn
    exact V.ret2 rfl rfl rfl (vc 3 (.slice a3 out.length c3) (out) :: I) Fit.sub ⟨a3, c3, out, rfl, ⟨_, _, hff, hB.great hok (by omega) hR, hs⟩, rfl⟩

end Go.Sl
namespace Go.Sl
open Go.Proofs
set_option linter.unusedVariables false
set_option linter.unusedSimpArgs false
set_option maxRecDepth 4000
theorem inn_step {inn : List Bool} {side : List Int} {N : Int} {k : Nat} (h : ∀ z : Int, 0 ≤ z → z < N → (at_ inn z = true ↔ ∃ j : Nat, j < k ∧ at_ side (j : Int) = z)) (hv : 0 ≤ at_ side (k : Int) ∧ at_ side (k : Int) < N) (hl : N ≤ inn.length) :
    ∀ z : Int, 0 ≤ z → z < N → (at_ (List.set inn (at_ side (k : Int)).toNat true) z = true ↔ ∃ j : Nat, j < k + 1 ∧ at_ side (j : Int) = z) := fun z h0 h1 => by
  rw [at_set inn _ z _ hv.1 h0 (by omega)]
  constructor
  · intro e
    by_cases hz : at_ side (k : Int) = z
    · exact ⟨k, by omega, hz⟩
    · rw [if_neg hz] at e
      obtain ⟨j, hj, he⟩ := (h z h0 h1).1 e
      exact ⟨j, by omega, he⟩
  · rintro ⟨j, hj, he⟩
    by_cases hjk : j = k
    · subst hjk; rw [if_pos he]
    · split
      · rfl
      · exact (h z h0 h1).2 ⟨j, by omega, he⟩
theorem inn_done {inn : List Bool} {side : List Int} {k : Nat} {z : Int} (hk : side.length ≤ k) (h : at_ inn z = true ↔ ∃ j : Nat, j < k ∧ at_ side (j : Int) = z) (hk2 : k ≤ side.length := by omega) : inL side z = at_ inn z := by
  unfold inL
  rw [Bool.eq_iff_iff, decide_eq_true_iff, h]
  constructor
  · intro hm
    obtain ⟨j, hj, he⟩ := mem_at hm
    exact ⟨j, by omega, he⟩
  · rintro ⟨j, hj, rfl⟩
    exact at_mem (by omega) (by omega)

theorem ROutS_ok {κ : Ctx} {I : List Item} {n : Net} {v u : Value} {side : List Int} (hl : Sl κ I v n.arcs) (hu : Sl κ I u side) (hok : n.Ok) :
    CallS Try.prog κ 101 [.agg #[I64 (n.nodes), I64 (n.source), I64 (n.sink), v], u] I (fun r J => r = I64 (cutS n (inL side)) ∧ I = J) := by
 have hlim := hok.lim
 refine CallS.enter (L := [(0, .agg #[I64 (n.nodes), I64 (n.source), I64 (n.sink), v]), (1, u)]) Try.func101 rfl rfl rfl rfl ?_
 refine W.sr ?_
 refine G.e (Eff.box (cs := [_, _, _, _]) rfl rfl rfl) ?_
 rintro _ _ ⟨b1, rfl, rfl⟩
 refine G.r (Runs.assign rfl) ?_
 refine G.nt ?_
 refine W.sr ?_
 refine G.r (Runs.assign rfl) ?_
 refine G.nt ?_
 refine W.seq ?_
 refine W.sr ?_
 refine G.r (Runs.fieldAddr fld30_3 rfl) ?_
 refine G.r (Runs.ld ty28) ?_
 refine G.r (Runs.lenT (α := Arc) (xs := n.arcs) Try.underlying28 rfl (Sl.f hl)) ?_
 refine G.r (Runs.move rfl) ?_
 refine G.nt ?_
 refine W.block ?_
 refine W.loop (σ := Nat) (fun s => ([(1, u), (5, I64 (cutK n (inL side) s)), (9, v), (10, I64 (((n.arcs.length : Nat) : Int))), (11, I64 (((s : Nat) : Int)))] : Env)) (fun s => blk b1 [I64 (n.nodes), I64 (n.source), I64 (n.sink), v] 30 :: I) (fun s => (s ≤ n.arcs.length)) (fun s => n.arcs.length - s) (0) (show ((0 : Nat) ≤ n.arcs.length) from (by omega)) (Sub.cons rfl (Sub.cons (lookI rfl (by first | rfl | omega | exact (cutK_yes (decide_eq_true g19) (decide_eq_false c25)).symm | exact (cutK_no (.inl (decide_eq_false g19))).symm | exact (cutK_no (.inr (decide_eq_true (Decidable.of_not_not c25)))).symm)) (Sub.cons rfl (Sub.cons rfl (Sub.cons (lookI rfl (by first | rfl | omega | exact (cutK_yes (decide_eq_true g19) (decide_eq_false c25)).symm | exact (cutK_no (.inl (decide_eq_false g19))).symm | exact (cutK_no (.inr (decide_eq_true (Decidable.of_not_not c25)))).symm)) Sub.nil))))) (show Fit κ _ (blk b1 [I64 (n.nodes), I64 (n.source), I64 (n.sink), v] 30 :: I) from Fit.sub) ?_
 rintro k hp
 have hk : (k ≤ n.arcs.length) := hp
 show W Try.prog κ 32 _ _ ([(1, u), (5, I64 (cutK n (inL side) k)), (9, v), (10, I64 (((n.arcs.length : Nat) : Int))), (11, I64 (((k : Nat) : Int)))] : Env) (blk b1 [I64 (n.nodes), I64 (n.source), I64 (n.sink), v] 30 :: I)
 have hcb := cutK_bd hok (inL side) k hk
 refine W.sr ?_
 refine G.r (Runs.lss rfl rfl) ?_
 refine G.nt ?_
 refine W.seq ?_
 refine W.ite rfl (fun c12 => ?_) (fun c12 => ?_)
 ·refine W.skip ?_
  refine V.then ?_
  refine W.seq ?_
  refine W.block ?_
  refine W.sr ?_
  refine G.r (Runs.idx (α := Arc) (xs := n.arcs) Try.underlying28 ty43 rfl rfl (Sl.f hl) (by omega) (by omega)) ?_
  refine G.r (Runs.gets (α := Arc) (xs := n.arcs) ty43 rfl (Sl.f hl) (by omega) (by omega)) ?_
  have hb := hok.arc (at_ n.arcs ((k : Nat) : Int)) (at_mem (by omega) (by omega))
  refine G.e (Eff.alloc ty43 rfl) ?_
  rintro _ _ ⟨b2, rfl, rfl⟩
  refine G.e (Eff.st (cs := [_, _, _]) (vs := [_, _, _]) (cs' := [_, _, _]) ty43) ?_
  rintro _ _ ⟨rfl, rfl⟩
  refine G.nt ?_
  refine W.sr ?_
  refine G.r (Runs.move rfl) ?_
  refine G.r (Runs.fieldAddr fld43_0 rfl) ?_
  refine G.r (Runs.ld ty3) ?_
  refine G.e (Eff.call call95 rfl rfl (RHas_ok (Sl.f hu) ((at_ n.arcs ((k : Nat) : Int)).frm))) ?_
  rintro _ _ ⟨_, _, ⟨rfl, rfl⟩, rfl, rfl⟩
  refine G.r (Runs.move rfl) ?_
  refine G.split (d := 19) rfl (fun g19 => ?_) (fun g19 => ?_)
  ·refine G.ro (Runs.move rfl) ?_
   refine G.ro (Runs.fieldAddr fld43_1 rfl) ?_
   refine G.ro (Runs.ld ty3) ?_
   refine G.eff (Wanted.on rfl rfl rfl) (Eff.call call95 rfl rfl (RHas_ok (Sl.f hu) ((at_ n.arcs ((k : Nat) : Int)).dst))) ?_
   rintro _ _ ⟨_, _, ⟨rfl, rfl⟩, rfl, rfl⟩
   refine G.ro (Runs.notd rfl) ?_
   refine G.r (Runs.pickt rfl rfl) ?_
   refine G.nt ?_
   refine W.sub (L' := [(25, _), (7, _), (1, _), (5, _), (9, _), (10, _), (11, _)]) (Sub.cons rfl (Sub.cons rfl (Sub.cons rfl (Sub.cons rfl (Sub.cons rfl (Sub.cons rfl (Sub.cons rfl Sub.nil))))))) ?_
   refine W.ite rfl (fun c25 => ?_) (fun c25 => ?_)
   ·refine W.region ?_
    refine G.r (Runs.move rfl) ?_
    refine G.r (Runs.fieldAddr fld43_2 rfl) ?_
    refine G.r (Runs.ld ty3) ?_
    refine G.r (Runs.add rfl rfl (by unfold InR; omega)) ?_
    refine G.r (Runs.assign rfl) ?_
    refine G.nil ?_
    refine V.block_normal ?_
    refine V.then ?_
    refine W.region ?_
    refine G.r (Runs.add rfl rfl (by unfold InR; omega)) ?_
    refine G.r (Runs.move rfl) ?_
    refine G.nil ?_
    exact V.next ((k + 1)) (show ((k + 1 : Nat) ≤ n.arcs.length) from (by omega)) (show n.arcs.length - (k + 1 : Nat) < n.arcs.length - k from (by omega)) (Sub.cons rfl (Sub.cons (lookI rfl (by first | rfl | omega | exact (cutK_yes (decide_eq_true g19) (decide_eq_false c25)).symm | exact (cutK_no (.inl (decide_eq_false g19))).symm | exact (cutK_no (.inr (decide_eq_true (Decidable.of_not_not c25)))).symm)) (Sub.cons rfl (Sub.cons rfl (Sub.cons (lookI rfl (by first | rfl | omega | exact (cutK_yes (decide_eq_true g19) (decide_eq_false c25)).symm | exact (cutK_no (.inl (decide_eq_false g19))).symm | exact (cutK_no (.inr (decide_eq_true (Decidable.of_not_not c25)))).symm)) Sub.nil))))) (show Fit κ _ (blk b1 [I64 (n.nodes), I64 (n.source), I64 (n.sink), v] 30 :: I) from Fit.sub)
   ·refine W.skip ?_
    refine V.block_normal ?_
    refine V.then ?_
    refine W.region ?_
    refine G.r (Runs.add rfl rfl (by unfold InR; omega)) ?_
    refine G.r (Runs.move rfl) ?_
    refine G.nil ?_
    exact V.next ((k + 1)) (show ((k + 1 : Nat) ≤ n.arcs.length) from (by omega)) (show n.arcs.length - (k + 1 : Nat) < n.arcs.length - k from (by omega)) (Sub.cons rfl (Sub.cons (lookI rfl (by first | rfl | omega | exact (cutK_yes (decide_eq_true g19) (decide_eq_false c25)).symm | exact (cutK_no (.inl (decide_eq_false g19))).symm | exact (cutK_no (.inr (decide_eq_true (Decidable.of_not_not c25)))).symm)) (Sub.cons rfl (Sub.cons rfl (Sub.cons (lookI rfl (by first | rfl | omega | exact (cutK_yes (decide_eq_true g19) (decide_eq_false c25)).symm | exact (cutK_no (.inl (decide_eq_false g19))).symm | exact (cutK_no (.inr (decide_eq_true (Decidable.of_not_not c25)))).symm)) Sub.nil))))) (show Fit κ _ (blk b1 [I64 (n.nodes), I64 (n.source), I64 (n.sink), v] 30 :: I) from Fit.sub)
  ·refine G.po ?_
   refine G.po ?_
   refine G.po ?_
   refine G.po ?_
   refine G.po ?_
   refine G.r (Runs.pickf rfl rfl) ?_
   refine G.nt ?_
   refine W.sub (L' := [(25, _), (7, _), (1, _), (5, _), (9, _), (10, _), (11, _)]) (Sub.cons rfl (Sub.cons rfl (Sub.cons rfl (Sub.cons rfl (Sub.cons rfl (Sub.cons rfl (Sub.cons rfl Sub.nil))))))) ?_
   refine W.no rfl ?_
   refine W.skip ?_
   refine V.block_normal ?_
   refine V.then ?_
   refine W.region ?_
   refine G.r (Runs.add rfl rfl (by unfold InR; omega)) ?_
   refine G.r (Runs.move rfl) ?_
   refine G.nil ?_
   exact V.next ((k + 1)) (show ((k + 1 : Nat) ≤ n.arcs.length) from (by omega)) (show n.arcs.length - (k + 1 : Nat) < n.arcs.length - k from (by omega)) (Sub.cons rfl (Sub.cons (lookI rfl (by first | rfl | omega | exact (cutK_yes (decide_eq_true g19) (decide_eq_false c25)).symm | exact (cutK_no (.inl (decide_eq_false g19))).symm | exact (cutK_no (.inr (decide_eq_true (Decidable.of_not_not c25)))).symm)) (Sub.cons rfl (Sub.cons rfl (Sub.cons (lookI rfl (by first | rfl | omega | exact (cutK_yes (decide_eq_true g19) (decide_eq_false c25)).symm | exact (cutK_no (.inl (decide_eq_false g19))).symm | exact (cutK_no (.inr (decide_eq_true (Decidable.of_not_not c25)))).symm)) Sub.nil))))) (show Fit κ _ (blk b1 [I64 (n.nodes), I64 (n.source), I64 (n.sink), v] 30 :: I) from Fit.sub)
 ·refine W.exit ?_
  refine V.then_exit ?_
  refine V.then_exit ?_
  refine V.block_hit ?_
  refine V.then ?_
  refine W.sr ?_
  refine G.r (Runs.move rfl) ?_
  refine G.r (Runs.assign rfl) ?_
  refine G.nt ?_
  refine W.ret ?_
  have hkn : k = n.arcs.length := by omega
  subst hkn
  exact V.ret1 rfl rfl (I) Fit.m ⟨rfl, rfl⟩

theorem Leaves_ok {κ : Ctx} {I : List Item} {n : Net} {v u : Value} {side : List Int} (hl : Sl κ I v n.arcs) (hu : Sl κ I u side) (hok : n.Ok) (hv : ValidP side n.nodes) :
    CallS Try.prog κ 98 [.agg #[I64 (n.nodes), I64 (n.source), I64 (n.sink), v], u] I (fun r J => r = I64 (cutS n (inL side)) ∧ I = J) := by
 have hlim := hok.lim
 have htwo := hok.two
 refine CallS.pull hu.le fun hmaxu => ?_
 refine CallS.enter (L := [(0, .agg #[I64 (n.nodes), I64 (n.source), I64 (n.sink), v]), (1, u)]) Try.func98 rfl rfl rfl rfl ?_
 refine W.sr ?_
 refine G.e (Eff.box (cs := [_, _, _, _]) rfl rfl rfl) ?_
 rintro _ _ ⟨b1, rfl, rfl⟩
 refine G.r (Runs.assign rfl) ?_
 refine G.nt ?_
 refine W.sr ?_
 refine G.r (Runs.fieldAddr fld30_0 rfl) ?_
 refine G.r (Runs.ld ty3) ?_
 refine G.e (Eff.make (α := Bool) (n := n.nodes.toNat) Try.underlying143 ty4 rfl rfl rfl (by omega) (by omega) (by decide) rfl) ?_
 rintro _ _ ⟨ad2, cp3, rfl, rfl⟩
 refine G.r (Runs.assign rfl) ?_
 refine G.nt ?_
 refine W.seq ?_
 refine W.sr ?_
 refine G.r (Runs.move rfl) ?_
 refine G.r (Runs.lenT (α := Int) (xs := side) Try.underlying22 rfl (Sl.f hu)) ?_
 refine G.r (Runs.move rfl) ?_
 refine G.nt ?_
 refine W.block ?_
 refine W.loop (σ := Nat × (List Bool)) (fun s => ([(2, .pointer (some ⟨b1, 0, none⟩)), (5, .slice ad2 (List.replicate n.nodes.toNat (default : Bool)).length cp3), (14, u), (15, I64 (((side.length : Nat) : Int))), (16, I64 (((s.1 : Nat) : Int)))] : Env)) (fun s => vc 4 (.slice ad2 (List.replicate n.nodes.toNat (default : Bool)).length cp3) (s.2) :: blk b1 [I64 (n.nodes), I64 (n.source), I64 (n.sink), v] 30 :: I) (fun s => (s.1 ≤ side.length) ∧ (s.2.length = n.nodes.toNat) ∧ (∀ z : Int, 0 ≤ z → z < n.nodes → (at_ s.2 z = true ↔ ∃ j : Nat, j < s.1 ∧ at_ side (j : Int) = z))) (fun s => side.length - s.1) (0, List.replicate n.nodes.toNat (default : Bool)) (show ((0 : Nat) ≤ side.length) ∧ ((List.replicate n.nodes.toNat (default : Bool) : List Bool).length = n.nodes.toNat) ∧ (∀ z : Int, 0 ≤ z → z < n.nodes → (at_ (List.replicate n.nodes.toNat (default : Bool) : List Bool) z = true ↔ ∃ j : Nat, j < (0 : Nat) ∧ at_ side (j : Int) = z)) from ⟨(by omega), List.length_replicate, (fun z h0 h1 => by rw [at_rep _ _ _ h0 (by omega)]; exact ⟨fun h => absurd h (by decide), fun ⟨j, hj, _⟩ => absurd hj (Nat.not_lt_zero j)⟩)⟩) (Sub.cons rfl (Sub.cons rfl (Sub.cons rfl (Sub.cons rfl (Sub.cons (lookI rfl (by first | rfl | omega | exact (cutK_yes ((hI _ (by omega) (by omega)).trans g36) (by rw [hI _ (by omega) (by omega)]; simpa using c43)).symm | exact (cutK_no (.inl ((hI _ (by omega) (by omega)).trans g36))).symm | exact (cutK_no (.inr (by rw [hI _ (by omega) (by omega)]; simpa using c43))).symm)) Sub.nil))))) (show Fit κ _ (vc 4 (.slice ad2 (List.replicate n.nodes.toNat (default : Bool)).length cp3) ((List.replicate n.nodes.toNat (default : Bool))) :: blk b1 [I64 (n.nodes), I64 (n.source), I64 (n.sink), v] 30 :: I) from Fit.sub) ?_
 rintro ⟨k, inn⟩ hp
 obtain ⟨hk, hil, hin⟩ : (k ≤ side.length) ∧ (inn.length = n.nodes.toNat) ∧ (∀ z : Int, 0 ≤ z → z < n.nodes → (at_ inn z = true ↔ ∃ j : Nat, j < k ∧ at_ side (j : Int) = z)) := hp
 show W Try.prog κ 50 _ _ ([(2, .pointer (some ⟨b1, 0, none⟩)), (5, .slice ad2 (List.replicate n.nodes.toNat (default : Bool)).length cp3), (14, u), (15, I64 (((side.length : Nat) : Int))), (16, I64 (((k : Nat) : Int)))] : Env) (vc 4 (.slice ad2 (List.replicate n.nodes.toNat (default : Bool)).length cp3) (inn) :: blk b1 [I64 (n.nodes), I64 (n.source), I64 (n.sink), v] 30 :: I)
 refine W.sr ?_
 refine G.r (Runs.lss rfl rfl) ?_
 refine G.nt ?_
 refine W.seq ?_
 refine W.ite rfl (fun c17 => ?_) (fun c17 => ?_)
 ·refine W.skip ?_
  refine V.then ?_
  refine W.seq ?_
  refine W.block ?_
  refine W.sr ?_
  refine G.r (Runs.idx (α := Int) (xs := side) Try.underlying22 ty3 rfl rfl (Sl.f hu) (by omega) (by omega)) ?_
  have hvk := (hv k (by omega)).1
  refine G.r (Runs.get (xs := side) ty3 rfl (Sl.f hu) (by omega) (by omega)) ?_
  refine G.r (Runs.assign rfl) ?_
  refine G.nt ?_
  refine W.region ?_
  refine G.r (Runs.move rfl) ?_
  refine G.r (Runs.move rfl) ?_
  refine G.r (Runs.idx (α := Bool) (xs := inn) Try.underlying143 ty4 rfl rfl Sl.o (by omega) (by omega)) ?_
  refine G.e (Eff.set (α := Bool) (xs := inn) (e := 4) (new := true) ty4 rfl rfl rfl (by omega) (by omega) (by repeat (first | exact At.head _ _ _ | apply At.tail))) ?_
  rintro _ _ ⟨rfl, rfl⟩
  refine G.nil ?_
  refine V.block_normal ?_
  refine V.then ?_
  refine W.region ?_
  refine G.r (Runs.add rfl rfl (by unfold InR; omega)) ?_
  refine G.r (Runs.move rfl) ?_
  refine G.nil ?_
  exact V.next ((k + 1), (List.set inn (at_ side ((k : Nat) : Int)).toNat (true))) (show ((k + 1 : Nat) ≤ side.length) ∧ ((List.set inn (at_ side ((k : Nat) : Int)).toNat (true) : List Bool).length = n.nodes.toNat) ∧ (∀ z : Int, 0 ≤ z → z < n.nodes → (at_ (List.set inn (at_ side ((k : Nat) : Int)).toNat (true) : List Bool) z = true ↔ ∃ j : Nat, j < (k + 1 : Nat) ∧ at_ side (j : Int) = z)) from ⟨(by omega), (by rw [List.length_set]; exact hil), (inn_step hin hvk (by omega))⟩) (show side.length - (k + 1 : Nat) < side.length - k from (by omega)) (Sub.cons rfl (Sub.cons rfl (Sub.cons rfl (Sub.cons rfl (Sub.cons (lookI rfl (by first | rfl | omega | exact (cutK_yes ((hI _ (by omega) (by omega)).trans g36) (by rw [hI _ (by omega) (by omega)]; simpa using c43)).symm | exact (cutK_no (.inl ((hI _ (by omega) (by omega)).trans g36))).symm | exact (cutK_no (.inr (by rw [hI _ (by omega) (by omega)]; simpa using c43))).symm)) Sub.nil))))) (show Fit κ _ (vc 4 (.slice ad2 (List.replicate n.nodes.toNat (default : Bool)).length cp3) ((List.set inn (at_ side ((k : Nat) : Int)).toNat (true))) :: blk b1 [I64 (n.nodes), I64 (n.source), I64 (n.sink), v] 30 :: I) from Fit.sub)
 ·refine W.exit ?_
  refine V.then_exit ?_
  refine V.then_exit ?_
  refine V.block_hit ?_
  refine V.then ?_
  refine W.sr ?_
  refine G.r (Runs.assign rfl) ?_
  have hI : ∀ z : Int, 0 ≤ z → z < n.nodes → inL side z = at_ inn z := fun z h0 h1 => inn_done (by omega) (hin z h0 h1)
  refine G.nt ?_
  refine W.seq ?_
  refine W.sr ?_
  refine G.r (Runs.fieldAddr fld30_3 rfl) ?_
  refine G.r (Runs.ld ty28) ?_
  refine G.r (Runs.lenT (α := Arc) (xs := n.arcs) Try.underlying28 rfl (Sl.f hl)) ?_
  refine G.r (Runs.move rfl) ?_
  refine G.nt ?_
  refine W.block ?_
  refine W.loop (σ := Nat) (fun s => ([(5, .slice ad2 (List.replicate n.nodes.toNat (default : Bool)).length cp3), (8, I64 (cutK n (inL side) s)), (25, v), (26, I64 (((n.arcs.length : Nat) : Int))), (27, I64 (((s : Nat) : Int)))] : Env)) (fun s => vc 4 (.slice ad2 (List.replicate n.nodes.toNat (default : Bool)).length cp3) (inn) :: blk b1 [I64 (n.nodes), I64 (n.source), I64 (n.sink), v] 30 :: I) (fun s => (s ≤ n.arcs.length)) (fun s => n.arcs.length - s) (0) (show ((0 : Nat) ≤ n.arcs.length) from (by omega)) (Sub.cons rfl (Sub.cons (lookI rfl (by first | rfl | omega | exact (cutK_yes ((hI _ (by omega) (by omega)).trans g36) (by rw [hI _ (by omega) (by omega)]; simpa using c43)).symm | exact (cutK_no (.inl ((hI _ (by omega) (by omega)).trans g36))).symm | exact (cutK_no (.inr (by rw [hI _ (by omega) (by omega)]; simpa using c43))).symm)) (Sub.cons rfl (Sub.cons rfl (Sub.cons (lookI rfl (by first | rfl | omega | exact (cutK_yes ((hI _ (by omega) (by omega)).trans g36) (by rw [hI _ (by omega) (by omega)]; simpa using c43)).symm | exact (cutK_no (.inl ((hI _ (by omega) (by omega)).trans g36))).symm | exact (cutK_no (.inr (by rw [hI _ (by omega) (by omega)]; simpa using c43))).symm)) Sub.nil))))) (show Fit κ _ (vc 4 (.slice ad2 (List.replicate n.nodes.toNat (default : Bool)).length cp3) (inn) :: blk b1 [I64 (n.nodes), I64 (n.source), I64 (n.sink), v] 30 :: I) from Fit.sub) ?_
  rintro k hp
  have hk : (k ≤ n.arcs.length) := hp
  show W Try.prog κ 50 _ _ ([(5, .slice ad2 (List.replicate n.nodes.toNat (default : Bool)).length cp3), (8, I64 (cutK n (inL side) k)), (25, v), (26, I64 (((n.arcs.length : Nat) : Int))), (27, I64 (((k : Nat) : Int)))] : Env) (vc 4 (.slice ad2 (List.replicate n.nodes.toNat (default : Bool)).length cp3) (inn) :: blk b1 [I64 (n.nodes), I64 (n.source), I64 (n.sink), v] 30 :: I)
  have hcb := cutK_bd hok (inL side) k hk
  refine W.sr ?_
  refine G.r (Runs.lss rfl rfl) ?_
  refine G.nt ?_
  refine W.seq ?_
  refine W.ite rfl (fun c28 => ?_) (fun c28 => ?_)
  ·refine W.skip ?_
   refine V.then ?_
   refine W.seq ?_
   refine W.block ?_
   refine W.sr ?_
   refine G.r (Runs.idx (α := Arc) (xs := n.arcs) Try.underlying28 ty43 rfl rfl (Sl.f hl) (by omega) (by omega)) ?_
   refine G.r (Runs.gets (α := Arc) (xs := n.arcs) ty43 rfl (Sl.f hl) (by omega) (by omega)) ?_
   have hb := hok.arc (at_ n.arcs ((k : Nat) : Int)) (at_mem (by omega) (by omega))
   refine G.e (Eff.alloc ty43 rfl) ?_
   rintro _ _ ⟨b4, rfl, rfl⟩
   refine G.e (Eff.st (cs := [_, _, _]) (vs := [_, _, _]) (cs' := [_, _, _]) ty43) ?_
   rintro _ _ ⟨rfl, rfl⟩
   refine G.nt ?_
   refine W.sr ?_
   refine G.r (Runs.move rfl) ?_
   refine G.r (Runs.fieldAddr fld43_0 rfl) ?_
   refine G.r (Runs.ld ty3) ?_
   refine G.r (Runs.idx (α := Bool) (xs := inn) Try.underlying143 ty4 rfl rfl Sl.o (by omega) (by omega)) ?_
   refine G.r (Runs.getB (xs := inn) ty4 rfl Sl.o (by omega) (by omega)) ?_
   refine G.r (Runs.move rfl) ?_
   refine G.splitb (d := 36) rfl (fun g36 => ?_) (fun g36 => ?_)
   ·refine G.ro (Runs.move rfl) ?_
    refine G.ro (Runs.fieldAddr fld43_1 rfl) ?_
    refine G.ro (Runs.ld ty3) ?_
    refine G.ro (Runs.idx (α := Bool) (xs := inn) Try.underlying143 ty4 rfl rfl Sl.o (by omega) (by omega)) ?_
    refine G.ro (Runs.getB (xs := inn) ty4 rfl Sl.o (by omega) (by omega)) ?_
    refine G.ro (Runs.not rfl) ?_
    refine G.r (Runs.pickt rfl rfl) ?_
    refine G.nt ?_
    refine W.sub (L' := [(43, _), (10, _), (5, _), (8, _), (25, _), (26, _), (27, _)]) (Sub.cons rfl (Sub.cons rfl (Sub.cons rfl (Sub.cons rfl (Sub.cons rfl (Sub.cons rfl (Sub.cons rfl Sub.nil))))))) ?_
    refine W.cond rfl (fun c43 => ?_) (fun c43 => ?_)
    ·refine W.region ?_
     refine G.r (Runs.move rfl) ?_
     refine G.r (Runs.fieldAddr fld43_2 rfl) ?_
     refine G.r (Runs.ld ty3) ?_
     refine G.r (Runs.add rfl rfl (by unfold InR; omega)) ?_
     refine G.r (Runs.assign rfl) ?_
     refine G.nil ?_
     refine V.block_normal ?_
     refine V.then ?_
     refine W.region ?_
     refine G.r (Runs.add rfl rfl (by unfold InR; omega)) ?_
     refine G.r (Runs.move rfl) ?_
     refine G.nil ?_
     exact V.next ((k + 1)) (show ((k + 1 : Nat) ≤ n.arcs.length) from (by omega)) (show n.arcs.length - (k + 1 : Nat) < n.arcs.length - k from (by omega)) (Sub.cons rfl (Sub.cons (lookI rfl (by first | rfl | omega | exact (cutK_yes ((hI _ (by omega) (by omega)).trans g36) (by rw [hI _ (by omega) (by omega)]; simpa using c43)).symm | exact (cutK_no (.inl ((hI _ (by omega) (by omega)).trans g36))).symm | exact (cutK_no (.inr (by rw [hI _ (by omega) (by omega)]; simpa using c43))).symm)) (Sub.cons rfl (Sub.cons rfl (Sub.cons (lookI rfl (by first | rfl | omega | exact (cutK_yes ((hI _ (by omega) (by omega)).trans g36) (by rw [hI _ (by omega) (by omega)]; simpa using c43)).symm | exact (cutK_no (.inl ((hI _ (by omega) (by omega)).trans g36))).symm | exact (cutK_no (.inr (by rw [hI _ (by omega) (by omega)]; simpa using c43))).symm)) Sub.nil))))) (show Fit κ _ (vc 4 (.slice ad2 (List.replicate n.nodes.toNat (default : Bool)).length cp3) (inn) :: blk b1 [I64 (n.nodes), I64 (n.source), I64 (n.sink), v] 30 :: I) from Fit.sub)
    ·refine W.skip ?_
     refine V.block_normal ?_
     refine V.then ?_
     refine W.region ?_
     refine G.r (Runs.add rfl rfl (by unfold InR; omega)) ?_
     refine G.r (Runs.move rfl) ?_
     refine G.nil ?_
     exact V.next ((k + 1)) (show ((k + 1 : Nat) ≤ n.arcs.length) from (by omega)) (show n.arcs.length - (k + 1 : Nat) < n.arcs.length - k from (by omega)) (Sub.cons rfl (Sub.cons (lookI rfl (by first | rfl | omega | exact (cutK_yes ((hI _ (by omega) (by omega)).trans g36) (by rw [hI _ (by omega) (by omega)]; simpa using c43)).symm | exact (cutK_no (.inl ((hI _ (by omega) (by omega)).trans g36))).symm | exact (cutK_no (.inr (by rw [hI _ (by omega) (by omega)]; simpa using c43))).symm)) (Sub.cons rfl (Sub.cons rfl (Sub.cons (lookI rfl (by first | rfl | omega | exact (cutK_yes ((hI _ (by omega) (by omega)).trans g36) (by rw [hI _ (by omega) (by omega)]; simpa using c43)).symm | exact (cutK_no (.inl ((hI _ (by omega) (by omega)).trans g36))).symm | exact (cutK_no (.inr (by rw [hI _ (by omega) (by omega)]; simpa using c43))).symm)) Sub.nil))))) (show Fit κ _ (vc 4 (.slice ad2 (List.replicate n.nodes.toNat (default : Bool)).length cp3) (inn) :: blk b1 [I64 (n.nodes), I64 (n.source), I64 (n.sink), v] 30 :: I) from Fit.sub)
   ·refine G.po ?_
    refine G.po ?_
    refine G.po ?_
    refine G.po ?_
    refine G.po ?_
    refine G.po ?_
    refine G.r (Runs.pickf rfl rfl) ?_
    refine G.nt ?_
    refine W.sub (L' := [(43, _), (10, _), (5, _), (8, _), (25, _), (26, _), (27, _)]) (Sub.cons rfl (Sub.cons rfl (Sub.cons rfl (Sub.cons rfl (Sub.cons rfl (Sub.cons rfl (Sub.cons rfl Sub.nil))))))) ?_
    refine W.no rfl ?_
    refine W.skip ?_
    refine V.block_normal ?_
    refine V.then ?_
    refine W.region ?_
    refine G.r (Runs.add rfl rfl (by unfold InR; omega)) ?_
    refine G.r (Runs.move rfl) ?_
    refine G.nil ?_
    exact V.next ((k + 1)) (show ((k + 1 : Nat) ≤ n.arcs.length) from (by omega)) (show n.arcs.length - (k + 1 : Nat) < n.arcs.length - k from (by omega)) (Sub.cons rfl (Sub.cons (lookI rfl (by first | rfl | omega | exact (cutK_yes ((hI _ (by omega) (by omega)).trans g36) (by rw [hI _ (by omega) (by omega)]; simpa using c43)).symm | exact (cutK_no (.inl ((hI _ (by omega) (by omega)).trans g36))).symm | exact (cutK_no (.inr (by rw [hI _ (by omega) (by omega)]; simpa using c43))).symm)) (Sub.cons rfl (Sub.cons rfl (Sub.cons (lookI rfl (by first | rfl | omega | exact (cutK_yes ((hI _ (by omega) (by omega)).trans g36) (by rw [hI _ (by omega) (by omega)]; simpa using c43)).symm | exact (cutK_no (.inl ((hI _ (by omega) (by omega)).trans g36))).symm | exact (cutK_no (.inr (by rw [hI _ (by omega) (by omega)]; simpa using c43))).symm)) Sub.nil))))) (show Fit κ _ (vc 4 (.slice ad2 (List.replicate n.nodes.toNat (default : Bool)).length cp3) (inn) :: blk b1 [I64 (n.nodes), I64 (n.source), I64 (n.sink), v] 30 :: I) from Fit.sub)
  ·refine W.exit ?_
   refine V.then_exit ?_
   refine V.then_exit ?_
   refine V.block_hit ?_
   refine V.then ?_
   refine W.sr ?_
   refine G.r (Runs.move rfl) ?_
   refine G.r (Runs.assign rfl) ?_
   refine G.nt ?_
   refine W.ret ?_
   have hkn : k = n.arcs.length := by omega
   subst hkn
   exact V.ret1 rfl rfl (I) Fit.m ⟨rfl, rfl⟩

end Go.Sl
namespace Go.Sl
open Go.Proofs
set_option linter.unusedVariables false
set_option linter.unusedSimpArgs false
set_option maxRecDepth 4000
/-- Out. -/
def outE (n : Net) (s : List Int) : Int × Int := if checkN n ≠ 0 then (0, checkN n) else if ¬ ValidP s n.nodes then (0, 4) else (cutS n (inL s), 0)
theorem outE_1 {n : Net} {s : List Int} (h : checkN n ≠ 0) : outE n s = (0, checkN n) := by unfold outE; rw [if_pos h]
theorem outE_2 {n : Net} {s : List Int} (h : checkN n = 0) (h' : ¬ ValidP s n.nodes) : outE n s = (0, 4) := by unfold outE; rw [if_neg (by simp [h]), if_pos h']
theorem outE_3 {n : Net} {s : List Int} (h : checkN n = 0) (h' : ValidP s n.nodes) : outE n s = (cutS n (inL s), 0) := by unfold outE; rw [if_neg (by simp [h]), if_neg (by simp [h'])]

theorem ROut_ok {κ : Ctx} {I : List Item} {n : Net} {v u : Value} {side : List Int} (hl : Sl κ I v n.arcs) (hu : Sl κ I u side) :
    CallS Try.prog κ 38 [.agg #[I64 (n.nodes), I64 (n.source), I64 (n.sink), v], u] I (fun r J => r = .tuple #[I64 (outE n side).1, I64 (outE n side).2] ∧ I = J) := by
 refine CallS.enter (L := [(0, .agg #[I64 (n.nodes), I64 (n.source), I64 (n.sink), v]), (1, u)]) Try.func38 rfl rfl rfl rfl ?_
 refine W.sr ?_
 refine G.e (Eff.box (cs := [_, _, _, _]) rfl rfl rfl) ?_
 rintro _ _ ⟨b1, rfl, rfl⟩
 refine G.r (Runs.assign rfl) ?_
 refine G.r (Runs.assign rfl) ?_
 refine G.nt ?_
 refine W.seq ?_
 refine W.sr ?_
 refine G.r (Runs.lds (vs := [_, _, _, _]) ty30) ?_
 refine G.e (Eff.call call35 rfl rfl (RCheck_ok (n := n) (Sl.f hl))) ?_
 rintro _ _ ⟨_, _, ⟨rfl, rfl⟩, rfl, rfl⟩
 refine G.r (Runs.assign rfl) ?_
 refine G.nt ?_
 refine W.sr ?_
 refine G.r (Runs.move rfl) ?_
 refine G.r (Runs.neq rfl rfl) ?_
 refine G.nt ?_
 refine W.ite rfl (fun c10 => ?_) (fun c10 => ?_)
 ·refine W.sr ?_
  refine G.r (Runs.move rfl) ?_
  refine G.r (Runs.assign rfl) ?_
  refine G.r (Runs.assign rfl) ?_
  refine G.nt ?_
  refine W.ret ?_
  refine V.then_ret ?_
  exact V.ret2 rfl rfl rfl (I) Fit.m ⟨by rw [outE_1 c10], rfl⟩
 ·refine W.skip ?_
  refine V.then ?_
  refine W.seq ?_
  refine W.sr ?_
  refine G.r (Runs.move rfl) ?_
  refine G.r (Runs.fieldAddr fld30_0 rfl) ?_
  refine G.r (Runs.ld ty3) ?_
  refine G.e (Eff.call call100 rfl rfl (RValid_ok (Sl.f hu) n.nodes)) ?_
  rintro _ _ ⟨_, _, ⟨rfl, rfl⟩, rfl, rfl⟩
  refine G.r (Runs.notd rfl) ?_
  refine G.nt ?_
  refine W.sub (L' := [(16, _), (2, _), (1, _)]) (Sub.cons rfl (Sub.cons rfl (Sub.cons rfl Sub.nil))) ?_
  refine W.ite rfl (fun c16 => ?_) (fun c16 => ?_)
  ·refine W.sr ?_
   refine G.r (Runs.assign rfl) ?_
   refine G.r (Runs.assign rfl) ?_
   refine G.nt ?_
   refine W.ret ?_
   refine V.then_ret ?_
   exact V.ret2 rfl rfl rfl (I) Fit.m ⟨by rw [outE_2 (Decidable.of_not_not c10) c16], rfl⟩
  ·refine W.skip ?_
   refine V.then ?_
   refine W.sr ?_
   refine G.r (Runs.lds (vs := [_, _, _, _]) ty30) ?_
   refine G.r (Runs.move rfl) ?_
   refine G.e (Eff.call call101 rfl rfl (ROutS_ok (n := n) (Sl.f hl) (Sl.f hu) (checkN_ok.1 (Decidable.of_not_not c10)))) ?_
   rintro _ _ ⟨_, _, ⟨rfl, rfl⟩, rfl, rfl⟩
   refine G.r (Runs.assign rfl) ?_
   refine G.r (Runs.assign rfl) ?_
   refine G.nt ?_
   refine W.ret ?_
   exact V.ret2 rfl rfl rfl (I) Fit.m ⟨by rw [outE_3 (Decidable.of_not_not c10) (Decidable.of_not_not c16)], rfl⟩

theorem FOut_ok {κ : Ctx} {I : List Item} {n : Net} {v u : Value} {side : List Int} (hl : Sl κ I v n.arcs) (hu : Sl κ I u side) :
    CallS Try.prog κ 37 [.agg #[I64 (n.nodes), I64 (n.source), I64 (n.sink), v], u] I (fun r J => r = .tuple #[I64 (outE n side).1, I64 (outE n side).2] ∧ I = J) := by
 refine CallS.enter (L := [(0, .agg #[I64 (n.nodes), I64 (n.source), I64 (n.sink), v]), (1, u)]) Try.func37 rfl rfl rfl rfl ?_
 refine W.sr ?_
 refine G.e (Eff.box (cs := [_, _, _, _]) rfl rfl rfl) ?_
 rintro _ _ ⟨b1, rfl, rfl⟩
 refine G.r (Runs.assign rfl) ?_
 refine G.r (Runs.assign rfl) ?_
 refine G.nt ?_
 refine W.seq ?_
 refine W.sr ?_
 refine G.r (Runs.lds (vs := [_, _, _, _]) ty30) ?_
 refine G.e (Eff.call call34 rfl rfl (FCheck_ok (n := n) (Sl.f hl))) ?_
 rintro _ _ ⟨_, _, ⟨rfl, rfl⟩, rfl, rfl⟩
 refine G.r (Runs.assign rfl) ?_
 refine G.nt ?_
 refine W.sr ?_
 refine G.r (Runs.move rfl) ?_
 refine G.r (Runs.neq rfl rfl) ?_
 refine G.nt ?_
 refine W.ite rfl (fun c10 => ?_) (fun c10 => ?_)
 ·refine W.sr ?_
  refine G.r (Runs.move rfl) ?_
  refine G.r (Runs.assign rfl) ?_
  refine G.r (Runs.assign rfl) ?_
  refine G.nt ?_
  refine W.ret ?_
  refine V.then_ret ?_
  exact V.ret2 rfl rfl rfl (I) Fit.m ⟨by rw [outE_1 c10], rfl⟩
 ·refine W.skip ?_
  refine V.then ?_
  refine W.seq ?_
  refine W.sr ?_
  refine G.r (Runs.move rfl) ?_
  refine G.r (Runs.fieldAddr fld30_0 rfl) ?_
  refine G.r (Runs.ld ty3) ?_
  refine G.e (Eff.call call96 rfl rfl (NValid_ok (Sl.f hu) n.nodes)) ?_
  rintro _ _ ⟨_, _, ⟨rfl, rfl⟩, rfl, rfl⟩
  refine G.r (Runs.notd rfl) ?_
  refine G.nt ?_
  refine W.sub (L' := [(16, _), (2, _), (1, _)]) (Sub.cons rfl (Sub.cons rfl (Sub.cons rfl Sub.nil))) ?_
  refine W.ite rfl (fun c16 => ?_) (fun c16 => ?_)
  ·refine W.sr ?_
   refine G.r (Runs.assign rfl) ?_
   refine G.r (Runs.assign rfl) ?_
   refine G.nt ?_
   refine W.ret ?_
   refine V.then_ret ?_
   exact V.ret2 rfl rfl rfl (I) Fit.m ⟨by rw [outE_2 (Decidable.of_not_not c10) c16], rfl⟩
  ·refine W.skip ?_
   refine V.then ?_
   refine W.sr ?_
   refine G.r (Runs.lds (vs := [_, _, _, _]) ty30) ?_
   refine G.r (Runs.move rfl) ?_
   refine G.e (Eff.call call98 rfl rfl (Leaves_ok (n := n) (Sl.f hl) (Sl.f hu) (checkN_ok.1 (Decidable.of_not_not c10)) (Decidable.of_not_not c16))) ?_
   rintro _ _ ⟨_, _, ⟨rfl, rfl⟩, rfl, rfl⟩
   refine G.r (Runs.assign rfl) ?_
   refine G.r (Runs.assign rfl) ?_
   refine G.nt ?_
   refine W.ret ?_
   exact V.ret2 rfl rfl rfl (I) Fit.m ⟨by rw [outE_3 (Decidable.of_not_not c10) (Decidable.of_not_not c16)], rfl⟩

theorem bal_start {n : Net} {f : List Int} (hn : 0 ≤ n.nodes) : ∀ z : Int, 0 ≤ z → z < n.nodes → at_ (List.replicate n.nodes.toNat (default : Int)) z = netK n f z 0 := fun z h0 h1 => by
  rw [at_rep _ _ _ h0 (by omega)]; rfl
theorem bal_step {n : Net} (hok : n.Ok) {f l : List Int} {k : Nat} (hk : k < n.arcs.length) (hl : l.length = n.nodes.toNat) (h : ∀ z : Int, 0 ≤ z → z < n.nodes → at_ l z = netK n f z k) :
    ∀ z : Int, 0 ≤ z → z < n.nodes → at_ (List.set (List.set l (at_ n.arcs (k : Int)).frm.toNat (at_ l (at_ n.arcs (k : Int)).frm + at_ f (k : Int))) (at_ n.arcs (k : Int)).dst.toNat (at_ (List.set l (at_ n.arcs (k : Int)).frm.toNat (at_ l (at_ n.arcs (k : Int)).frm + at_ f (k : Int))) (at_ n.arcs (k : Int)).dst - at_ f (k : Int))) z = netK n f z (k + 1) := fun z h0 h1 => by
  have ha := arc_at hok hk
  rw [netK_succ, at_set _ _ _ _ ha.2.1.1 h0 (by rw [List.length_set]; omega), at_set _ _ _ _ ha.1.1 ha.2.1.1 (by omega), at_set _ _ _ _ ha.1.1 h0 (by omega), if_neg ha.2.2.1]
  by_cases e1 : (at_ n.arcs (k : Int)).dst = z
  · subst e1
    rw [if_pos rfl, if_neg ha.2.2.1, if_pos rfl, h _ h0 h1]; omega
  · rw [if_neg e1, if_neg e1]
    by_cases e2 : (at_ n.arcs (k : Int)).frm = z
    · subst e2; rw [if_pos rfl, if_pos rfl, h _ h0 h1]; omega
    · rw [if_neg e2, if_neg e2, h _ h0 h1]; omega

theorem Balance_ok {κ : Ctx} {I : List Item} {n : Net} {v u : Value} {f : List Int} (hl : Sl κ I v n.arcs) (hu : Sl κ I u f) (hok : n.Ok) (hfl : f.length = n.arcs.length) :
    CallS Try.prog κ 97 [.agg #[I64 (n.nodes), I64 (n.source), I64 (n.sink), v], u] I (fun r J => (CapOk n f ∧ ∃ a c l, r = .tuple #[.slice a l.length c, .bool true] ∧ ((l.length : Int) = n.nodes ∧ ∀ z : Int, 0 ≤ z → z < n.nodes → at_ l z = netF n f z) ∧ J = vc 3 (.slice a l.length c) l :: I) ∨ (¬ CapOk n f ∧ r = .tuple #[.slice none 0 0, .bool false] ∧ I = J)) := by
 have hlim := hok.lim
 have htwo := hok.two
 refine CallS.enter (L := [(0, .agg #[I64 (n.nodes), I64 (n.source), I64 (n.sink), v]), (1, u)]) Try.func97 rfl rfl rfl rfl ?_
 refine W.sr ?_
 refine G.e (Eff.box (cs := [_, _, _, _]) rfl rfl rfl) ?_
 rintro _ _ ⟨b1, rfl, rfl⟩
 refine G.r (Runs.assign rfl) ?_
 refine G.r (Runs.assign rfl) ?_
 refine G.nt ?_
 refine W.sr ?_
 refine G.r (Runs.fieldAddr fld30_0 rfl) ?_
 refine G.r (Runs.ld ty3) ?_
 refine G.e (Eff.make (α := Int) (n := n.nodes.toNat) Try.underlying22 ty3 rfl rfl rfl (by omega) (by omega) (by decide) rfl) ?_
 rintro _ _ ⟨ad2, cp3, rfl, rfl⟩
 refine G.r (Runs.assign rfl) ?_
 refine G.nt ?_
 refine W.seq ?_
 refine W.sr ?_
 refine G.r (Runs.fieldAddr fld30_3 rfl) ?_
 refine G.r (Runs.ld ty28) ?_
 refine G.r (Runs.lenT (α := Arc) (xs := n.arcs) Try.underlying28 rfl (Sl.f hl)) ?_
 refine G.r (Runs.move rfl) ?_
 refine G.nt ?_
 refine W.block ?_
 refine W.loop (σ := Nat × (List Int)) (fun s => ([(1, u), (6, .slice ad2 (List.replicate n.nodes.toNat (default : Int)).length cp3), (13, v), (14, I64 (((n.arcs.length : Nat) : Int))), (15, I64 (((s.1 : Nat) : Int)))] : Env)) (fun s => vc 3 (.slice ad2 (List.replicate n.nodes.toNat (default : Int)).length cp3) (s.2) :: blk b1 [I64 (n.nodes), I64 (n.source), I64 (n.sink), v] 30 :: I) (fun s => (s.1 ≤ n.arcs.length) ∧ (s.2.length = n.nodes.toNat) ∧ (∀ z : Int, 0 ≤ z → z < n.nodes → at_ s.2 z = netK n f z s.1) ∧ (∀ j : Nat, j < s.1 → 0 ≤ at_ f (j : Int) ∧ at_ f (j : Int) ≤ (at_ n.arcs (j : Int)).cap)) (fun s => n.arcs.length - s.1) (0, List.replicate n.nodes.toNat (default : Int)) (show ((0 : Nat) ≤ n.arcs.length) ∧ ((List.replicate n.nodes.toNat (default : Int) : List Int).length = n.nodes.toNat) ∧ (∀ z : Int, 0 ≤ z → z < n.nodes → at_ (List.replicate n.nodes.toNat (default : Int) : List Int) z = netK n f z (0 : Nat)) ∧ (∀ j : Nat, j < (0 : Nat) → 0 ≤ at_ f (j : Int) ∧ at_ f (j : Int) ≤ (at_ n.arcs (j : Int)).cap) from ⟨(by omega), List.length_replicate, (bal_start (by omega)), all_zero⟩) (Sub.cons rfl (Sub.cons rfl (Sub.cons rfl (Sub.cons rfl (Sub.cons (lookI rfl (by omega)) Sub.nil))))) (show Fit κ _ (vc 3 (.slice ad2 (List.replicate n.nodes.toNat (default : Int)).length cp3) ((List.replicate n.nodes.toNat (default : Int))) :: blk b1 [I64 (n.nodes), I64 (n.source), I64 (n.sink), v] 30 :: I) from Fit.sub) ?_
 rintro ⟨k, l⟩ hp
 obtain ⟨hk, hll, hnet, hcap⟩ : (k ≤ n.arcs.length) ∧ (l.length = n.nodes.toNat) ∧ (∀ z : Int, 0 ≤ z → z < n.nodes → at_ l z = netK n f z k) ∧ (∀ j : Nat, j < k → 0 ≤ at_ f (j : Int) ∧ at_ f (j : Int) ≤ (at_ n.arcs (j : Int)).cap) := hp
 show W Try.prog κ 58 _ _ ([(1, u), (6, .slice ad2 (List.replicate n.nodes.toNat (default : Int)).length cp3), (13, v), (14, I64 (((n.arcs.length : Nat) : Int))), (15, I64 (((k : Nat) : Int)))] : Env) (vc 3 (.slice ad2 (List.replicate n.nodes.toNat (default : Int)).length cp3) (l) :: blk b1 [I64 (n.nodes), I64 (n.source), I64 (n.sink), v] 30 :: I)
 refine W.sr ?_
 refine G.r (Runs.lss rfl rfl) ?_
 refine G.nt ?_
 refine W.seq ?_
 refine W.ite rfl (fun c16 => ?_) (fun c16 => ?_)
 ·refine W.skip ?_
  refine V.then ?_
  refine W.seq ?_
  refine W.block ?_
  refine W.sr ?_
  refine G.r (Runs.move rfl) ?_
  refine G.r (Runs.idx (α := Arc) (xs := n.arcs) Try.underlying28 ty43 rfl rfl (Sl.f hl) (by omega) (by omega)) ?_
  have hb := hok.arc (at_ n.arcs ((k : Nat) : Int)) (at_mem (by omega) (by omega))
  have hn1 := hnet _ hb.1.1 hb.1.2
  have hn2 := hnet _ hb.2.1.1 hb.2.1.2
  have hd1 := netK_bd hok (at_ n.arcs ((k : Nat) : Int)).frm k hk hcap
  have hd2 := netK_bd hok (at_ n.arcs ((k : Nat) : Int)).dst k hk hcap
  refine G.r (Runs.gets (α := Arc) (xs := n.arcs) ty43 rfl (Sl.f hl) (by omega) (by omega)) ?_
  refine G.e (Eff.alloc ty43 rfl) ?_
  rintro _ _ ⟨b4, rfl, rfl⟩
  refine G.r (Runs.assign rfl) ?_
  refine G.e (Eff.st (cs := [_, _, _]) (vs := [_, _, _]) (cs' := [_, _, _]) ty43) ?_
  rintro _ _ ⟨rfl, rfl⟩
  refine G.nt ?_
  refine W.seq ?_
  refine W.seq ?_
  refine W.drawn mixed ?_
  refine A.hold (blk b4 [I64 ((at_ n.arcs ((k : Nat) : Int)).frm), I64 ((at_ n.arcs ((k : Nat) : Int)).dst), I64 ((at_ n.arcs ((k : Nat) : Int)).cap)] 43 :: vc 3 (.slice ad2 (List.replicate n.nodes.toNat (default : Int)).length cp3) (l) :: blk b1 [I64 (n.nodes), I64 (n.source), I64 (n.sink), v] 30 :: I) 14 ?_
  refine D.r 0 rfl (Runs.move rfl) ?_
  refine D.r 1 rfl (Runs.move rfl) ?_
  refine D.r 2 rfl (Runs.idx (α := Int) (xs := f) Try.underlying22 ty3 rfl rfl (Sl.f hu) (by omega) (by omega)) ?_
  refine D.r 3 rfl (Runs.get (xs := f) ty3 rfl (Sl.f hu) (by omega) (by omega)) ?_
  refine D.r 4 rfl (Runs.lss rfl rfl) ?_
  refine D.r 5 rfl (Runs.move rfl) ?_
  refine D.split (d := 25) rfl (fun g25 => ?_) (fun g25 => ?_)
  ·refine D.po 6 rfl ?_
   refine D.po 7 rfl ?_
   refine D.po 8 rfl ?_
   refine D.po 9 rfl ?_
   refine D.po 10 rfl ?_
   refine D.po 11 rfl ?_
   refine D.po 12 rfl ?_
   refine D.r 13 rfl (Runs.pickt rfl rfl) ?_
   refine D.done (by kernel_rfl) ?_
   refine V.then ?_
   refine W.sub (L' := [(33, _), (7, _), (8, _), (1, _), (6, _), (13, _), (14, _), (15, _)]) (Sub.cons rfl (Sub.cons rfl (Sub.cons rfl (Sub.cons rfl (Sub.cons rfl (Sub.cons rfl (Sub.cons rfl (Sub.cons rfl Sub.nil)))))))) ?_
   refine W.yes rfl ?_
   refine W.sr ?_
   refine G.r (Runs.assign rfl) ?_
   refine G.r (Runs.assign rfl) ?_
   refine G.nt ?_
   refine W.ret ?_
   refine V.then_ret ?_
   refine V.block_ret ?_
   refine V.then_ret ?_
   refine V.then_ret ?_
   refine V.block_ret ?_
   refine V.then_ret ?_
   exact V.ret2 rfl rfl rfl (I) Fit.m (.inr ⟨fun hc => by have := hc k (by omega); omega, rfl, rfl⟩)
  ·refine D.ro 6 rfl (Runs.move rfl) ?_
   refine D.ro 7 rfl (Runs.move rfl) ?_
   refine D.ro 8 rfl (Runs.idx (α := Int) (xs := f) Try.underlying22 ty3 rfl rfl (Sl.f hu) (by omega) (by omega)) ?_
   refine D.ro 9 rfl (Runs.get (xs := f) ty3 rfl (Sl.f hu) (by omega) (by omega)) ?_
   refine D.ro 10 rfl (Runs.fieldAddr fld43_2 rfl) ?_
   refine D.ro 11 rfl (Runs.ld ty3) ?_
   refine D.ro 12 rfl (Runs.gtr rfl rfl) ?_
   refine D.r 13 rfl (Runs.pickf rfl rfl) ?_
   refine D.done (by kernel_rfl) ?_
   refine V.then ?_
   refine W.sub (L' := [(33, _), (7, _), (8, _), (1, _), (6, _), (13, _), (14, _), (15, _)]) (Sub.cons rfl (Sub.cons rfl (Sub.cons rfl (Sub.cons rfl (Sub.cons rfl (Sub.cons rfl (Sub.cons rfl (Sub.cons rfl Sub.nil)))))))) ?_
   refine W.ite rfl (fun c33 => ?_) (fun c33 => ?_)
   ·refine W.sr ?_
    refine G.r (Runs.assign rfl) ?_
    refine G.r (Runs.assign rfl) ?_
    refine G.nt ?_
    refine W.ret ?_
    refine V.then_ret ?_
    refine V.block_ret ?_
    refine V.then_ret ?_
    refine V.then_ret ?_
    refine V.block_ret ?_
    refine V.then_ret ?_
    exact V.ret2 rfl rfl rfl (I) Fit.m (.inr ⟨fun hc => by have := hc k (by omega); omega, rfl, rfl⟩)
   ·refine W.skip ?_
    refine V.then ?_
    refine W.seq ?_
    refine W.drawn mixed ?_
    refine A.hold (blk b4 [I64 ((at_ n.arcs ((k : Nat) : Int)).frm), I64 ((at_ n.arcs ((k : Nat) : Int)).dst), I64 ((at_ n.arcs ((k : Nat) : Int)).cap)] 43 :: vc 3 (.slice ad2 (List.replicate n.nodes.toNat (default : Int)).length cp3) (l) :: blk b1 [I64 (n.nodes), I64 (n.source), I64 (n.sink), v] 30 :: I) 11 ?_
    refine D.read 0 rfl (by kernel_rfl) (by kernel_rfl) (by kernel_rfl) rfl (by kernel_rfl) (fun _ _ _ _ h => h) (Wanted.plain rfl) rfl rfl Fit.sub (Runs.move rfl) ?_
    refine D.read 1 rfl (by kernel_rfl) (by kernel_rfl) (by kernel_rfl) rfl (by kernel_rfl) (fun _ _ _ _ h => h) (Wanted.plain rfl) rfl rfl Fit.sub (Runs.fieldAddr fld43_0 rfl) ?_
    refine D.read 2 rfl (by kernel_rfl) (by kernel_rfl) (by kernel_rfl) rfl (by kernel_rfl) (fun _ _ _ _ h => h) (Wanted.plain rfl) rfl rfl Fit.sub (Runs.ld ty3) ?_
    refine D.read 3 rfl (by kernel_rfl) (by kernel_rfl) (by kernel_rfl) rfl (by kernel_rfl) (fun _ _ _ _ h => h) (Wanted.plain rfl) rfl rfl Fit.sub (Runs.idx (α := Int) (xs := l) Try.underlying22 ty3 rfl rfl Sl.o (by omega) (by omega)) ?_
    refine D.read 4 rfl (by kernel_rfl) (by kernel_rfl) (by kernel_rfl) rfl (by kernel_rfl) (fun _ _ _ _ h => h) (Wanted.plain rfl) rfl rfl Fit.sub (Runs.get (xs := l) ty3 rfl Sl.o (by omega) (by omega)) ?_
    refine D.read 5 rfl (by kernel_rfl) (by kernel_rfl) (by kernel_rfl) rfl (by kernel_rfl) (fun _ _ _ _ h => h) (Wanted.plain rfl) rfl rfl Fit.sub (Runs.move rfl) ?_
    refine D.read 6 rfl (by kernel_rfl) (by kernel_rfl) (by kernel_rfl) rfl (by kernel_rfl) (fun _ _ _ _ h => h) (Wanted.plain rfl) rfl rfl Fit.sub (Runs.move rfl) ?_
    refine D.read 7 rfl (by kernel_rfl) (by kernel_rfl) (by kernel_rfl) rfl (by kernel_rfl) (fun _ _ _ _ h => h) (Wanted.plain rfl) rfl rfl Fit.sub (Runs.idx (α := Int) (xs := f) Try.underlying22 ty3 rfl rfl (Sl.f hu) (by omega) (by omega)) ?_
    refine D.read 8 rfl (by kernel_rfl) (by kernel_rfl) (by kernel_rfl) rfl (by kernel_rfl) (fun _ _ _ _ h => h) (Wanted.plain rfl) rfl rfl Fit.sub (Runs.get (xs := f) ty3 rfl (Sl.f hu) (by omega) (by omega)) ?_
    refine D.read 9 rfl (by kernel_rfl) (by kernel_rfl) (by kernel_rfl) rfl (by kernel_rfl) (fun _ _ _ _ h => h) (Wanted.plain rfl) rfl rfl Fit.sub (Runs.add rfl rfl (by unfold InR; omega)) ?_
    refine D.read 10 rfl (by kernel_rfl) (by kernel_rfl) (by kernel_rfl) rfl (by kernel_rfl) (fun _ _ _ _ h => h) (Wanted.plain rfl) rfl rfl Fit.sub (Runs.idx (α := Int) (xs := l) Try.underlying22 ty3 rfl rfl Sl.o (by omega) (by omega)) ?_
    refine D.stop (by kernel_rfl) ?_
    refine A.eff (i := 11) (by kernel_rfl) rfl (Wanted.plain rfl) (Eff.set (α := Int) (xs := l) (e := 3) (new := (at_ l ((at_ n.arcs ((k : Nat) : Int)).frm)) + (at_ f ((k : Nat) : Int))) ty3 rfl rfl rfl (by omega) (by omega) (by repeat (first | exact At.head _ _ _ | apply At.tail))) ?_
    rintro _ _ ⟨rfl, rfl⟩
    refine A.done (by kernel_rfl) ?_
    refine V.then ?_
    refine W.sub (L' := [(7, _), (8, _), (1, _), (6, _), (13, _), (14, _), (15, _)]) (Sub.cons rfl (Sub.cons rfl (Sub.cons rfl (Sub.cons rfl (Sub.cons rfl (Sub.cons rfl (Sub.cons rfl Sub.nil))))))) ?_
    refine W.drawn mixed ?_
    refine A.hold (blk b4 [I64 ((at_ n.arcs ((k : Nat) : Int)).frm), I64 ((at_ n.arcs ((k : Nat) : Int)).dst), I64 ((at_ n.arcs ((k : Nat) : Int)).cap)] 43 :: vc 3 (.slice ad2 (List.replicate n.nodes.toNat (default : Int)).length cp3) (List.set l ((at_ n.arcs ((k : Nat) : Int)).frm).toNat ((at_ l ((at_ n.arcs ((k : Nat) : Int)).frm)) + (at_ f ((k : Nat) : Int)))) :: blk b1 [I64 (n.nodes), I64 (n.source), I64 (n.sink), v] 30 :: I) 11 ?_
    refine D.read 0 rfl (by kernel_rfl) (by kernel_rfl) (by kernel_rfl) rfl (by kernel_rfl) (fun _ _ _ _ h => h) (Wanted.plain rfl) rfl rfl Fit.sub (Runs.move rfl) ?_
    have hs1 := at_set l (at_ n.arcs ((k : Nat) : Int)).frm (at_ n.arcs ((k : Nat) : Int)).dst (at_ l (at_ n.arcs ((k : Nat) : Int)).frm + at_ f ((k : Nat) : Int)) hb.1.1 hb.2.1.1 (by omega)
    rw [if_neg hb.2.2.1] at hs1
    have hs2 : (List.set l (at_ n.arcs ((k : Nat) : Int)).frm.toNat (at_ l (at_ n.arcs ((k : Nat) : Int)).frm + at_ f ((k : Nat) : Int))).length = n.nodes.toNat := by rw [List.length_set]; exact hll
    refine D.read 1 rfl (by kernel_rfl) (by kernel_rfl) (by kernel_rfl) rfl (by kernel_rfl) (fun _ _ _ _ h => h) (Wanted.plain rfl) rfl rfl Fit.sub (Runs.fieldAddr fld43_1 rfl) ?_
    refine D.read 2 rfl (by kernel_rfl) (by kernel_rfl) (by kernel_rfl) rfl (by kernel_rfl) (fun _ _ _ _ h => h) (Wanted.plain rfl) rfl rfl Fit.sub (Runs.ld ty3) ?_
    refine D.read 3 rfl (by kernel_rfl) (by kernel_rfl) (by kernel_rfl) rfl (by kernel_rfl) (fun _ _ _ _ h => h) (Wanted.plain rfl) rfl rfl Fit.sub (Runs.idx (α := Int) (xs := List.set l ((at_ n.arcs ((k : Nat) : Int)).frm).toNat ((at_ l ((at_ n.arcs ((k : Nat) : Int)).frm)) + (at_ f ((k : Nat) : Int)))) Try.underlying22 ty3 rfl rfl Sl.o (by omega) (by omega)) ?_
    refine D.read 4 rfl (by kernel_rfl) (by kernel_rfl) (by kernel_rfl) rfl (by kernel_rfl) (fun _ _ _ _ h => h) (Wanted.plain rfl) rfl rfl Fit.sub (Runs.get (xs := List.set l ((at_ n.arcs ((k : Nat) : Int)).frm).toNat ((at_ l ((at_ n.arcs ((k : Nat) : Int)).frm)) + (at_ f ((k : Nat) : Int)))) ty3 rfl Sl.o (by omega) (by omega)) ?_
    refine D.read 5 rfl (by kernel_rfl) (by kernel_rfl) (by kernel_rfl) rfl (by kernel_rfl) (fun _ _ _ _ h => h) (Wanted.plain rfl) rfl rfl Fit.sub (Runs.move rfl) ?_
    refine D.read 6 rfl (by kernel_rfl) (by kernel_rfl) (by kernel_rfl) rfl (by kernel_rfl) (fun _ _ _ _ h => h) (Wanted.plain rfl) rfl rfl Fit.sub (Runs.move rfl) ?_
    refine D.read 7 rfl (by kernel_rfl) (by kernel_rfl) (by kernel_rfl) rfl (by kernel_rfl) (fun _ _ _ _ h => h) (Wanted.plain rfl) rfl rfl Fit.sub (Runs.idx (α := Int) (xs := f) Try.underlying22 ty3 rfl rfl (Sl.f hu) (by omega) (by omega)) ?_
    refine D.read 8 rfl (by kernel_rfl) (by kernel_rfl) (by kernel_rfl) rfl (by kernel_rfl) (fun _ _ _ _ h => h) (Wanted.plain rfl) rfl rfl Fit.sub (Runs.get (xs := f) ty3 rfl (Sl.f hu) (by omega) (by omega)) ?_
    refine D.read 9 rfl (by kernel_rfl) (by kernel_rfl) (by kernel_rfl) rfl (by kernel_rfl) (fun _ _ _ _ h => h) (Wanted.plain rfl) rfl rfl Fit.sub (Runs.sub rfl rfl (by unfold InR; omega)) ?_
    refine D.read 10 rfl (by kernel_rfl) (by kernel_rfl) (by kernel_rfl) rfl (by kernel_rfl) (fun _ _ _ _ h => h) (Wanted.plain rfl) rfl rfl Fit.sub (Runs.idx (α := Int) (xs := List.set l ((at_ n.arcs ((k : Nat) : Int)).frm).toNat ((at_ l ((at_ n.arcs ((k : Nat) : Int)).frm)) + (at_ f ((k : Nat) : Int)))) Try.underlying22 ty3 rfl rfl Sl.o (by omega) (by omega)) ?_
    refine D.stop (by kernel_rfl) ?_
    refine A.eff (i := 11) (by kernel_rfl) rfl (Wanted.plain rfl) (Eff.set (α := Int) (xs := List.set l ((at_ n.arcs ((k : Nat) : Int)).frm).toNat ((at_ l ((at_ n.arcs ((k : Nat) : Int)).frm)) + (at_ f ((k : Nat) : Int)))) (e := 3) (new := (at_ (List.set l ((at_ n.arcs ((k : Nat) : Int)).frm).toNat ((at_ l ((at_ n.arcs ((k : Nat) : Int)).frm)) + (at_ f ((k : Nat) : Int)))) ((at_ n.arcs ((k : Nat) : Int)).dst)) - (at_ f ((k : Nat) : Int))) ty3 rfl rfl rfl (by omega) (by omega) (by repeat (first | exact At.head _ _ _ | apply At.tail))) ?_
    rintro _ _ ⟨rfl, rfl⟩
    refine A.done (by kernel_rfl) ?_
    refine V.block_normal ?_
    refine V.then ?_
    refine W.sub (L' := [(1, _), (6, _), (13, _), (14, _), (15, _)]) (Sub.cons rfl (Sub.cons rfl (Sub.cons rfl (Sub.cons rfl (Sub.cons rfl Sub.nil))))) ?_
    refine W.region ?_
    refine G.r (Runs.add rfl rfl (by unfold InR; omega)) ?_
    refine G.r (Runs.move rfl) ?_
    refine G.nil ?_
    exact V.next ((k + 1), (List.set (List.set l ((at_ n.arcs ((k : Nat) : Int)).frm).toNat ((at_ l ((at_ n.arcs ((k : Nat) : Int)).frm)) + (at_ f ((k : Nat) : Int)))) ((at_ n.arcs ((k : Nat) : Int)).dst).toNat ((at_ (List.set l ((at_ n.arcs ((k : Nat) : Int)).frm).toNat ((at_ l ((at_ n.arcs ((k : Nat) : Int)).frm)) + (at_ f ((k : Nat) : Int)))) ((at_ n.arcs ((k : Nat) : Int)).dst)) - (at_ f ((k : Nat) : Int))))) (show ((k + 1 : Nat) ≤ n.arcs.length) ∧ ((List.set (List.set l ((at_ n.arcs ((k : Nat) : Int)).frm).toNat ((at_ l ((at_ n.arcs ((k : Nat) : Int)).frm)) + (at_ f ((k : Nat) : Int)))) ((at_ n.arcs ((k : Nat) : Int)).dst).toNat ((at_ (List.set l ((at_ n.arcs ((k : Nat) : Int)).frm).toNat ((at_ l ((at_ n.arcs ((k : Nat) : Int)).frm)) + (at_ f ((k : Nat) : Int)))) ((at_ n.arcs ((k : Nat) : Int)).dst)) - (at_ f ((k : Nat) : Int))) : List Int).length = n.nodes.toNat) ∧ (∀ z : Int, 0 ≤ z → z < n.nodes → at_ (List.set (List.set l ((at_ n.arcs ((k : Nat) : Int)).frm).toNat ((at_ l ((at_ n.arcs ((k : Nat) : Int)).frm)) + (at_ f ((k : Nat) : Int)))) ((at_ n.arcs ((k : Nat) : Int)).dst).toNat ((at_ (List.set l ((at_ n.arcs ((k : Nat) : Int)).frm).toNat ((at_ l ((at_ n.arcs ((k : Nat) : Int)).frm)) + (at_ f ((k : Nat) : Int)))) ((at_ n.arcs ((k : Nat) : Int)).dst)) - (at_ f ((k : Nat) : Int))) : List Int) z = netK n f z (k + 1 : Nat)) ∧ (∀ j : Nat, j < (k + 1 : Nat) → 0 ≤ at_ f (j : Int) ∧ at_ f (j : Int) ≤ (at_ n.arcs (j : Int)).cap) from ⟨(by omega), (by rw [List.length_set, List.length_set]; exact hll), (bal_step hok (by omega) hll hnet), (all_succ hcap (by omega))⟩) (show n.arcs.length - (k + 1 : Nat) < n.arcs.length - k from (by omega)) (Sub.cons rfl (Sub.cons rfl (Sub.cons rfl (Sub.cons rfl (Sub.cons (lookI rfl (by omega)) Sub.nil))))) (show Fit κ _ (vc 3 (.slice ad2 (List.replicate n.nodes.toNat (default : Int)).length cp3) ((List.set (List.set l ((at_ n.arcs ((k : Nat) : Int)).frm).toNat ((at_ l ((at_ n.arcs ((k : Nat) : Int)).frm)) + (at_ f ((k : Nat) : Int)))) ((at_ n.arcs ((k : Nat) : Int)).dst).toNat ((at_ (List.set l ((at_ n.arcs ((k : Nat) : Int)).frm).toNat ((at_ l ((at_ n.arcs ((k : Nat) : Int)).frm)) + (at_ f ((k : Nat) : Int)))) ((at_ n.arcs ((k : Nat) : Int)).dst)) - (at_ f ((k : Nat) : Int))))) :: blk b1 [I64 (n.nodes), I64 (n.source), I64 (n.sink), v] 30 :: I) from Fit.sub)
 ·refine W.exit ?_
  refine V.then_exit ?_
  refine V.then_exit ?_
  refine V.block_hit ?_
  refine V.then ?_
  refine W.sr ?_
  refine G.r (Runs.move rfl) ?_
  refine G.r (Runs.assign rfl) ?_
  refine G.r (Runs.assign rfl) ?_
  refine G.nt ?_
  refine W.ret ?_
  have hkn : k = n.arcs.length := by omega
  subst hkn
  have hl3 : (List.replicate n.nodes.toNat (default : Int)).length = l.length := by rw [List.length_replicate, hll]
  exact V.ret2 rfl rfl rfl (vc 3 (.slice ad2 (List.replicate n.nodes.toNat (default : Int)).length cp3) l :: I) Fit.sub (.inl ⟨hcap, ad2, cp3, l, by rw [hl3], ⟨by omega, hnet⟩, by rw [hl3]⟩)

end Go.Sl
