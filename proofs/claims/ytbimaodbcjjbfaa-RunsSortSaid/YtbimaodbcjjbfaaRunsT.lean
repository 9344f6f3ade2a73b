/- A part of the proofs of statements of this seat: contracts of functions, and the plain laws that they lean on. No conditions. -/
import Derived.Test.YtbimaodbcjjbfaaRunsU
import Derived.Test.YtbimaodbcjjbfaaRunsW
namespace Go.Sl
open Go.Proofs
set_option linter.unusedVariables false
set_option linter.unusedSimpArgs false
set_option maxRecDepth 4000
/-- A run as an element. -/
structure RunV where
  n : Int
  a : Option Addr
  c : Nat
  xs : List Pt
instance : Inhabited RunV := ⟨⟨0, none, 0, []⟩⟩
instance : Enc RunV := ⟨fun r => [I64 r.n, .slice r.a r.xs.length r.c], 2, by omega, fun _ => rfl, fun r u hu => by
  simp only [List.mem_cons, List.not_mem_nil, or_false] at hu
  rcases hu with rfl | rfl <;> rfl⟩
def RunV.Held (κ : Ctx) (I : List Item) (r : RunV) : Prop := Sl κ I (.slice r.a r.xs.length r.c) r.xs
def HeldRuns (κ : Ctx) (I : List Item) (rs : List RunV) : Prop := ∀ r ∈ rs, RunV.Held κ I r
theorem HeldRuns.nil {κ : Ctx} {I : List Item} : HeldRuns κ I [] := fun r hr => by cases hr
theorem HeldRuns.cons {κ : Ctx} {I : List Item} {r : RunV} {rs : List RunV} (hr : RunV.Held κ I r) (h : HeldRuns κ I rs) : HeldRuns κ I (r :: rs) := fun x hx => by
  rcases List.mem_cons.1 hx with rfl | hx
  · exact hr
  · exact h x hx
theorem HeldRuns.at {κ : Ctx} {I : List Item} {rs : List RunV} (h : HeldRuns κ I rs) {i : Int} (h0 : 0 ≤ i) (hn : i < rs.length) : Sl κ I (.slice (at_ rs i).a (at_ rs i).xs.length (at_ rs i).c) (at_ rs i).xs := h _ (at_mem h0 hn)
theorem HeldRuns.fit {κ : Ctx} {I J : List Item} {rs : List RunV} (h : HeldRuns κ I rs) (hf : Fit κ J I) : HeldRuns κ J rs := fun r hr => Sl.fit (h r hr) hf
/-- The blocks of all. -/
def readsL (rs : List RunV) : Nat := (rs.map fun r => nblocks r.n.toNat r.xs).sum
theorem readsL_step {rs : List RunV} {k : Nat} (hk : k < rs.length) : readsL (rs.take (k + 1)) = readsL (rs.take k) + nblocks (at_ rs (k : Int)).n.toNat (at_ rs (k : Int)).xs := by
  unfold readsL; rw [take_at rs k hk, List.map_append, List.sum_append]; simp
theorem readsL_le {rs : List RunV} (h : ∀ r ∈ rs, 1 ≤ r.n ∧ r.n ≤ 1024) : readsL rs ≤ ((rs.map RunV.xs).flatten).length := by
  induction rs with
  | nil => simp [readsL]
  | cons r rs ih =>
    have := ih fun x hx => h x (List.mem_cons_of_mem _ hx)
    have h1 := nblocks_le (n := r.n.toNat) (by have := h r List.mem_cons_self; omega) r.xs
    simp only [readsL, List.map_cons, List.sum_cons, List.flatten_cons, List.length_append] at *
    omega
structure SizeOk (n : Int) : Prop where size : 1 ≤ n ∧ n ≤ 1024
theorem compactN_of {xs ys : List Pt} (h : SortedP xs ys) : compactN ys ys.length = sortB Pt.lt xs :=
  (compactN_sorted h.2).trans (Pt.lin.sortB_congr fun x => h.1.mem_iff)
theorem CompactP_at {κ : Ctx} {I : List Item} {F : Item → List Item} {a : Option Addr} {n c : Nat} {xs : List Pt} (hat : AtF I (vc 60 (.slice a n c) xs) F) (hn : xs.length = n) (hsz : xs.length < 1000000000000) :
    CallS Try.prog κ 175 [.slice a n c] I fun r J => ∃ ys : List Pt, (r = .slice a (compactN xs xs.length).length c ∧ ys = compactN xs xs.length) ∧ J = [] ++ F (vc 60 (.slice a ys.length c) ys) :=
  CallS.at (Z := fun _ => []) (X := fun ys : List Pt => vc 60 (.slice a ys.length c) ys) (Post := fun r ys => r = .slice a (compactN xs xs.length).length c ∧ ys = compactN xs xs.length) hat fun J _ _ => by subst hn; exact CompactP_ok hsz
theorem Merged_ok {κ : Ctx} {I : List Item} {v : Value} {ls : List RunV} (hl : Sl κ I v ls) (hh : HeldRuns κ I ls) (hn : ∀ r ∈ ls, 1 ≤ r.n ∧ r.n ≤ 1024) {fl : List Pt} (hfl : fl = (ls.map RunV.xs).flatten) (hb : fl.length ≤ 1000000) {sz : Int} :
    CallS Try.prog κ 114 [v, I64 (sz)] I (fun r J => ∃ a c, r = .tuple #[.agg #[I64 sz, .slice a (sortB Pt.lt fl).length c], I64 ((readsL ls : Nat) : Int)] ∧ J = vc 60 (.slice a (sortB Pt.lt fl).length c) (sortB Pt.lt fl) :: I) := by
 refine CallS.pull hl.le fun hmax => ?_
 refine CallS.enter (L := [(0, v), (1, I64 (sz))]) Try.func114 rfl rfl rfl rfl ?_
 refine W.sr ?_
 refine G.e (Eff.alloc ty57 rfl) ?_
 rintro _ _ ⟨b1, rfl, rfl⟩
 refine G.r (Runs.assign rfl) ?_
 refine G.nt ?_
 refine W.sr ?_
 refine G.r (Runs.move rfl) ?_
 refine G.r (Runs.build (cells := [_, _]) ty57 Try.underlying57 pl57 rfl rfl) ?_
 refine G.e (Eff.alloc ty57 rfl) ?_
 rintro _ _ ⟨b2, rfl, rfl⟩
 refine G.e (Eff.st (cs := [_, _]) (vs := [_, _]) (cs' := [_, _]) ty57) ?_
 rintro _ _ ⟨rfl, rfl⟩
 refine G.nt ?_
 refine W.sr ?_
 refine G.r (Runs.assign rfl) ?_
 refine G.nt ?_
 refine W.seq ?_
 refine W.sr ?_
 refine G.r (Runs.move rfl) ?_
 refine G.r (Runs.lenT (α := RunV) (xs := ls) Try.underlying65 rfl (Sl.f hl)) ?_
 refine G.r (Runs.move rfl) ?_
 refine G.nt ?_
 refine W.block ?_
 refine W.loop (σ := Nat × Int × (Option Addr) × Nat × (List Pt)) (fun s => ([(4, .pointer (some ⟨b1, 0, none⟩)), (6, .pointer (some ⟨b2, 0, none⟩)), (7, I64 (s.2.1)), (12, v), (13, I64 (((ls.length : Nat) : Int))), (14, I64 (((s.1 : Nat) : Int)))] : Env)) (fun s => vc 60 (.slice s.2.2.1 s.2.2.2.2.length s.2.2.2.1) (s.2.2.2.2) :: blk b2 [I64 (sz), .slice s.2.2.1 s.2.2.2.2.length s.2.2.2.1] 57 :: blk b1 [I64 (0), .slice none 0 0] 57 :: I) (fun s => (s.1 ≤ ls.length) ∧ (s.2.2.2.2 = ((ls.take s.1).map RunV.xs).flatten) ∧ (s.2.1 = ((readsL (ls.take s.1) : Nat) : Int))) (fun s => ls.length - s.1) (0, 0, none, 0, []) (show ((0 : Nat) ≤ ls.length) ∧ (([] : List Pt) = ((ls.take (0 : Nat)).map RunV.xs).flatten) ∧ ((0 : Int) = ((readsL (ls.take (0 : Nat)) : Nat) : Int)) from ⟨(by omega), (by simp), (by simp [readsL])⟩) (Sub.cons rfl (Sub.cons rfl (Sub.cons lookO (Sub.cons rfl (Sub.cons rfl (Sub.cons lookO Sub.nil)))))) (show Fit κ _ (vc 60 (.slice (none) ([]).length (0)) (([])) :: blk b2 [I64 (sz), .slice (none) ([]).length (0)] 57 :: blk b1 [I64 (0), .slice none 0 0] 57 :: I) from (Fit.nilvc _ _)) ?_
 rintro ⟨k, rd, a, c, out⟩ hp
 obtain ⟨hk, ho, hrd⟩ : (k ≤ ls.length) ∧ (out = ((ls.take k).map RunV.xs).flatten) ∧ (rd = ((readsL (ls.take k) : Nat) : Int)) := hp
 show W Try.prog κ 39 _ _ ([(4, .pointer (some ⟨b1, 0, none⟩)), (6, .pointer (some ⟨b2, 0, none⟩)), (7, I64 (rd)), (12, v), (13, I64 (((ls.length : Nat) : Int))), (14, I64 (((k : Nat) : Int)))] : Env) (vc 60 (.slice a out.length c) (out) :: blk b2 [I64 (sz), .slice a out.length c] 57 :: blk b1 [I64 (0), .slice none 0 0] 57 :: I)
 have hfl1 := flatr_le (f := RunV.xs) ls k
 rw [← ho, ← hfl] at hfl1
 have hfl2 : k < ls.length → out.length + (at_ ls (k : Int)).xs.length ≤ fl.length := fun h => by have h1 := flatr_le (f := RunV.xs) ls (k + 1); rw [flatr_step h, List.length_append, ← hfl, ← ho] at h1; exact h1
 have hrl : readsL (ls.take k) ≤ fl.length := by have h1 := readsL_le (rs := ls.take k) (fun r hr => hn r (List.mem_of_mem_take hr)); rw [← ho] at h1; omega
 have hv0 : k < ls.length → SizeOk (at_ ls (k : Int)).n := fun h => ⟨hn _ (at_mem (by omega) (by omega))⟩
 refine W.sr ?_
 refine G.r (Runs.lss rfl rfl) ?_
 refine G.nt ?_
 refine W.seq ?_
 refine W.ite rfl (fun c15 => ?_) (fun c15 => ?_)
 ·refine W.skip ?_
  refine V.then ?_
  refine W.seq ?_
  refine W.block ?_
  refine W.sr ?_
  refine G.r (Runs.idx (α := RunV) (xs := ls) Try.underlying65 ty57 rfl rfl (Sl.f hl) (by omega) (by omega)) ?_
  have hv := hv0 (by omega)
  have hsz := hv.size
  have hnb := nblocks_le (n := (at_ ls (k : Int)).n.toNat) (by omega) (at_ ls (k : Int)).xs
  have hfl3 := hfl2 (by omega)
  refine G.r (Runs.gets (α := RunV) (xs := ls) ty57 rfl (Sl.f hl) (by omega) (by omega)) ?_
  refine G.e (Eff.alloc ty57 rfl) ?_
  rintro _ _ ⟨b3, rfl, rfl⟩
  refine G.e (Eff.st (cs := [_, _]) (vs := [_, _]) (cs' := [_, _]) ty57) ?_
  rintro _ _ ⟨rfl, rfl⟩
  refine G.nt ?_
  refine W.sr ?_
  refine G.r (Runs.fieldAddr fld57_1 rfl) ?_
  refine G.r (Runs.ld ty55) ?_
  refine G.r (Runs.fieldAddr fld57_1 rfl) ?_
  refine G.r (Runs.ld ty55) ?_
  refine G.e (Eff.app (α := Pt) (e := 60) (xs := out) (ys := (at_ ls ((k : Nat) : Int)).xs) Try.underlying55 ty60 rfl rfl rfl (by repeat (first | exact List.mem_cons_self | apply List.mem_cons_of_mem)) (Sl.fit (HeldRuns.at hh (i := ((k : Nat) : Int)) (by omega) (by omega)) Fit.m) (by omega) (by decide) rfl (fun _ _ => (by repeat (first | exact At.head _ _ _ | apply At.tail)))) ?_
  rintro _ _ ⟨ad4, cp5, rfl, rfl⟩
  refine G.r (Runs.fieldAddr fld57_1 rfl) ?_
  refine G.e (Eff.st (cs := [_, _]) (vs := [_]) (cs' := [_, _]) ty55) ?_
  rintro _ _ ⟨rfl, rfl⟩
  refine G.nt ?_
  refine W.sub (L' := [(9, _), (4, _), (6, _), (7, _), (12, _), (13, _), (14, _)]) (Sub.cons rfl (Sub.cons rfl (Sub.cons rfl (Sub.cons rfl (Sub.cons rfl (Sub.cons rfl (Sub.cons rfl Sub.nil))))))) ?_
  refine W.region ?_
  refine G.r (Runs.move rfl) ?_
  refine G.r (Runs.lds (vs := [_, _]) ty57) ?_
  refine G.e (Eff.call call110 rfl rfl (Blk_ok (Sl.fit (HeldRuns.at hh (i := ((k : Nat) : Int)) (by omega) (by omega)) Fit.m) hv.size (by omega))) ?_
  rintro _ _ ⟨_, _, ⟨ad6, cp7, rs8, rfl, ⟨hmrs8, hhrs8⟩, rfl⟩, rfl, rfl⟩
  have hlenrs8 : rs8.length = nblocks ((at_ ls ((k : Nat) : Int)).n).toNat ((at_ ls ((k : Nat) : Int)).xs) := by rw [rows_len hmrs8, blocks_len]
  refine G.r (Runs.lens Try.underlying151 rfl) ?_
  refine G.r (Runs.add rfl rfl (by unfold InR; omega)) ?_
  refine G.r (Runs.assign rfl) ?_
  refine G.nil ?_
  refine V.block_normal ?_
  refine V.then ?_
  refine W.region ?_
  refine G.r (Runs.add rfl rfl (by unfold InR; omega)) ?_
  refine G.r (Runs.move rfl) ?_
  refine G.nil ?_
  exact V.next ((k + 1), (rd + ((rs8.length : Nat) : Int)), (ad4), (cp5), (out ++ ((at_ ls ((k : Nat) : Int)).xs))) (show ((k + 1 : Nat) ≤ ls.length) ∧ ((out ++ ((at_ ls ((k : Nat) : Int)).xs) : List Pt) = ((ls.take (k + 1 : Nat)).map RunV.xs).flatten) ∧ ((rd + ((rs8.length : Nat) : Int) : Int) = ((readsL (ls.take (k + 1 : Nat)) : Nat) : Int)) from ⟨(by omega), (by rw [flatr_step (by omega), ← ho]), (by rw [readsL_step (by omega)]; omega)⟩) (show ls.length - (k + 1 : Nat) < ls.length - k from (by omega)) (Sub.cons rfl (Sub.cons rfl (Sub.cons lookO (Sub.cons rfl (Sub.cons rfl (Sub.cons lookO Sub.nil)))))) (show Fit κ _ (vc 60 (.slice (ad4) (out ++ ((at_ ls ((k : Nat) : Int)).xs)).length (cp5)) ((out ++ ((at_ ls ((k : Nat) : Int)).xs))) :: blk b2 [I64 (sz), .slice (ad4) (out ++ ((at_ ls ((k : Nat) : Int)).xs)).length (cp5)] 57 :: blk b1 [I64 (0), .slice none 0 0] 57 :: I) from Fit.sub)
 ·refine W.exit ?_
  refine V.then_exit ?_
  refine V.then_exit ?_
  refine V.block_hit ?_
  refine V.then ?_
  refine W.sr ?_
  refine G.r (Runs.fieldAddr fld57_1 rfl) ?_
  refine G.r (Runs.ld ty55) ?_
  refine G.e (Eff.call call146 rfl rfl (SortR_at (by repeat (first | exact AtF.head _ _ | apply AtF.tail)) (by omega))) ?_
  rintro _ _ ⟨_, _, ⟨ys9, ⟨rfl, hsys9, hlys9⟩, rfl⟩, rfl, rfl⟩
  show G Try.prog κ _ _ _ _ ([(32, .tuple #[]), (31, .slice a out.length c), (30, .pointer (some ⟨b2, 1, none⟩)), (15, .bool (decide (((k : Nat) : Int) < ((ls.length : Nat) : Int)))), (4, .pointer (some ⟨b1, 0, none⟩)), (6, .pointer (some ⟨b2, 0, none⟩)), (7, I64 (rd)), (12, v), (13, I64 (((ls.length : Nat) : Int))), (14, I64 (((k : Nat) : Int)))] : Env) (vc 60 (.slice a out.length c) (ys9) :: blk b2 [I64 (sz), .slice a out.length c] 57 :: blk b1 [I64 (0), .slice none 0 0] 57 :: I)
  refine G.nt ?_
  refine W.sr ?_
  refine G.r (Runs.fieldAddr fld57_1 rfl) ?_
  refine G.r (Runs.ld ty55) ?_
  refine G.e (Eff.call call175 rfl rfl (CompactP_at (by repeat (first | exact AtF.head _ _ | apply AtF.tail)) (by omega) (by omega))) ?_
  rintro _ _ ⟨_, _, ⟨_, ⟨rfl, rfl⟩, rfl⟩, rfl, rfl⟩
  show G Try.prog κ _ _ _ _ ([(35, .slice a (compactN ys9 ys9.length).length c), (34, .slice a out.length c), (33, .pointer (some ⟨b2, 1, none⟩)), (32, .tuple #[]), (31, .slice a out.length c), (30, .pointer (some ⟨b2, 1, none⟩)), (15, .bool (decide (((k : Nat) : Int) < ((ls.length : Nat) : Int)))), (4, .pointer (some ⟨b1, 0, none⟩)), (6, .pointer (some ⟨b2, 0, none⟩)), (7, I64 (rd)), (12, v), (13, I64 (((ls.length : Nat) : Int))), (14, I64 (((k : Nat) : Int)))] : Env) (vc 60 (.slice a (compactN ys9 ys9.length).length c) (compactN ys9 ys9.length) :: blk b2 [I64 (sz), .slice a out.length c] 57 :: blk b1 [I64 (0), .slice none 0 0] 57 :: I)
  refine G.r (Runs.fieldAddr fld57_1 rfl) ?_
  refine G.e (Eff.st (cs := [_, _]) (vs := [_]) (cs' := [_, _]) ty55) ?_
  rintro _ _ ⟨rfl, rfl⟩
  refine G.nt ?_
  refine W.sub (L' := [(4, _), (6, _), (7, _)]) (Sub.cons rfl (Sub.cons rfl (Sub.cons rfl Sub.nil))) ?_
  refine W.sr ?_
  refine G.r (Runs.lds (vs := [_, _]) ty57) ?_
  refine G.r (Runs.move rfl) ?_
  refine G.e (Eff.st (cs := [_, _]) (vs := [_, _]) (cs' := [_, _]) ty57) ?_
  rintro _ _ ⟨rfl, rfl⟩
  refine G.r (Runs.assign rfl) ?_
  refine G.nt ?_
  refine W.ret ?_
  have hk2 : ls.take k = ls := List.take_of_length_le (by omega)
  rw [hk2, ← hfl] at ho
  rw [hk2] at hrd
  subst ho
  have hM := compactN_of hsys9
  subst hrd
  exact V.retc1 rfl ty57 rfl rfl (by repeat (first | exact List.mem_cons_self | apply List.mem_cons_of_mem)) rfl (vc 60 (.slice a (sortB Pt.lt out).length c) (sortB Pt.lt out) :: I) (by rw [← hM]; exact Fit.sub) ⟨a, c, by rw [← hM], rfl⟩

end Go.Sl
namespace Go.Sl
open Go.Proofs
set_option linter.unusedVariables false
set_option linter.unusedSimpArgs false
set_option maxRecDepth 4000
theorem any_not_right {xs : List Pt} (h : ∀ p ∈ xs, p.right) (h2 : xs.any (fun x => !decide x.right) = true) : False := by
  obtain ⟨p, hp, h3⟩ := List.any_eq_true.1 h2
  rw [decide_eq_true (h p hp)] at h3; cases h3
end Go.Sl
namespace Go.Sl
open Go.Proofs
set_option linter.unusedVariables false
set_option linter.unusedSimpArgs false
set_option maxRecDepth 4000
end Go.Sl
