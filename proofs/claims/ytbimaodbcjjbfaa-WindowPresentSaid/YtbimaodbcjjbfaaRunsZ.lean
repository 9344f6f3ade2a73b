/- A part of the proofs of statements of this seat: contracts of functions, and the plain laws that they lean on. No conditions. -/
import Derived.Test.YtbimaodbcjjbfaaRunsY
namespace Go.Sl
open Go.Proofs
set_option linter.unusedVariables false
set_option linter.unusedSimpArgs false
set_option maxRecDepth 4000
theorem Build34_ok {κ : Ctx} {I : List Item} {nd sz : Int} {v : Value} {es : List Pt} (hl : Sl κ I v es) (hG : GrOk nd es) (hk : 1 ≤ sz ∧ sz ≤ 1024) (hb : es.length < 1000000) :
    CallS Try.prog κ 108 [.agg #[I64 (nd), v], I64 (sz)] I (fun r J => ∃ a c, r = .tuple #[.agg #[I64 sz, .slice a (both es).length c], I64 0] ∧ J = vc 60 (.slice a (both es).length c) (both es) :: I) := by
 refine CallS.pull hl.le fun hmax => ?_
 refine CallS.enter (L := [(0, .agg #[I64 (nd), v]), (1, I64 (sz))]) Try.func108 rfl rfl rfl rfl ?_
 refine W.sr ?_
 refine G.e (Eff.box (cs := [_, _]) rfl rfl rfl) ?_
 rintro _ _ ⟨b1, rfl, rfl⟩
 refine G.e (Eff.alloc ty57 rfl) ?_
 rintro _ _ ⟨b2, rfl, rfl⟩
 refine G.r (Runs.assign rfl) ?_
 refine G.nt ?_
 refine W.seq ?_
 refine W.sr ?_
 refine G.r (Runs.lds (vs := [_, _]) ty99) ?_
 refine G.e (Eff.call call73 rfl rfl (Check03_ok (Sl.f hl) hG)) ?_
 rintro _ _ ⟨_, _, ⟨rfl, rfl⟩, rfl, rfl⟩
 refine G.r (Runs.assign rfl) ?_
 refine G.nt ?_
 refine W.sr ?_
 refine G.r (Runs.move rfl) ?_
 refine G.r (Runs.neq rfl rfl) ?_
 refine G.nt ?_
 refine W.ite rfl (fun c12 => ?_) (fun c12 => ?_)
 ·exact absurd rfl c12
 ·refine W.skip ?_
  refine V.then ?_
  refine W.seq ?_
  refine W.sr ?_
  refine G.r (Runs.move rfl) ?_
  refine G.r (Runs.lss rfl rfl) ?_
  refine G.r (Runs.move rfl) ?_
  refine G.split (d := 17) rfl (fun g17 => ?_) (fun g17 => ?_)
  ·exact absurd hk (by omega)
  ·refine G.ro (Runs.move rfl) ?_
   refine G.ro (Runs.gtr rfl rfl) ?_
   refine G.r (Runs.pickf rfl rfl) ?_
   refine G.nt ?_
   refine W.sub (L' := [(20, _), (4, _), (2, _), (1, _)]) (Sub.cons rfl (Sub.cons rfl (Sub.cons rfl (Sub.cons rfl Sub.nil)))) ?_
   refine W.ite rfl (fun c20 => ?_) (fun c20 => ?_)
   ·exact absurd hk (by omega)
   ·refine W.skip ?_
    refine V.then ?_
    refine W.sr ?_
    refine G.r (Runs.assign rfl) ?_
    refine G.nt ?_
    refine W.seq ?_
    refine W.sr ?_
    refine G.r (Runs.assign rfl) ?_
    refine G.nt ?_
    refine W.block ?_
    refine W.loop (σ := Nat × (Option Addr) × Nat × (List Pt)) (fun s => ([(1, I64 (sz)), (2, .pointer (some ⟨b1, 0, none⟩)), (4, .pointer (some ⟨b2, 0, none⟩)), (7, .slice s.2.1 s.2.2.2.length s.2.2.1), (8, I64 (((s.1 : Nat) : Int)))] : Env)) (fun s => vc 60 (.slice s.2.1 s.2.2.2.length s.2.2.1) (s.2.2.2) :: blk b2 [I64 (0), .slice none 0 0] 57 :: blk b1 [I64 (nd), v] 99 :: I) (fun s => (s.1 ≤ es.length) ∧ (s.2.2.2 = dbl (es.take s.1))) (fun s => es.length - s.1) (0, none, 0, []) (show ((0 : Nat) ≤ es.length) ∧ (([] : List Pt) = dbl (es.take (0 : Nat))) from ⟨(by omega), rfl⟩) (Sub.cons rfl (Sub.cons rfl (Sub.cons rfl (Sub.cons (lookV rfl (by first | rfl | simp)) (Sub.cons lookO Sub.nil))))) (show Fit κ _ (vc 60 (.slice (none) ([]).length (0)) (([])) :: blk b2 [I64 (0), .slice none 0 0] 57 :: blk b1 [I64 (nd), v] 99 :: I) from (Fit.nilvc _ _)) ?_
    rintro ⟨k, a, c, out⟩ hp
    obtain ⟨hk, ho⟩ : (k ≤ es.length) ∧ (out = dbl (es.take k)) := hp
    show W Try.prog κ 62 _ _ ([(1, I64 (sz)), (2, .pointer (some ⟨b1, 0, none⟩)), (4, .pointer (some ⟨b2, 0, none⟩)), (7, .slice a out.length c), (8, I64 (((k : Nat) : Int)))] : Env) (vc 60 (.slice a out.length c) (out) :: blk b2 [I64 (0), .slice none 0 0] 57 :: blk b1 [I64 (nd), v] 99 :: I)
    have hol : out.length ≤ 2 * es.length := by rw [ho, dbl_len]; simp only [List.length_take]; omega
    refine W.seq ?_
    refine W.sr ?_
    refine G.r (Runs.move rfl) ?_
    refine G.r (Runs.fieldAddr fld99_1 rfl) ?_
    refine G.r (Runs.ld ty97) ?_
    refine G.r (Runs.lenT (α := Pt) (xs := es) Try.underlying97 rfl (Sl.f hl)) ?_
    refine G.r (Runs.lss rfl rfl) ?_
    refine G.nt ?_
    refine W.ite rfl (fun c26 => ?_) (fun c26 => ?_)
    ·refine W.skip ?_
     refine V.then ?_
     refine W.seq ?_
     refine W.block ?_
     refine W.drawn mixed ?_
     refine A.hold (blk b2 [I64 (0), .slice none 0 0] 57 :: blk b1 [I64 (nd), v] 99 :: I) 30 ?_
     refine D.r 0 rfl (Runs.move rfl) ?_ (hJ := Fit.sub)
     refine D.r 1 rfl (Runs.fieldAddr fld99_1 rfl) ?_ (hJ := Fit.sub)
     refine D.r 2 rfl (Runs.ld ty97) ?_ (hJ := Fit.sub)
     refine D.r 3 rfl (Runs.move rfl) ?_ (hJ := Fit.sub)
     refine D.r 4 rfl (Runs.idx (α := Pt) (xs := es) Try.underlying97 ty150 rfl rfl (Sl.f hl) (by omega) (by omega)) ?_ (hJ := Fit.sub)
     refine D.r 5 rfl (Runs.fld (α := Pt) (xs := es) fld150_0 rfl (Sl.f hl) (by omega)) ?_ (hJ := Fit.sub)
     refine D.r 6 rfl (Runs.getf (α := Pt) (xs := es) (u := I64 ((at_ es ((k : Nat) : Int)).u)) ty3 rfl (Sl.f hl) (by omega) (by omega) rfl) ?_ (hJ := Fit.sub)
     refine D.r 7 rfl (Runs.fieldAddr fld99_1 rfl) ?_ (hJ := Fit.sub)
     refine D.r 8 rfl (Runs.ld ty97) ?_ (hJ := Fit.sub)
     refine D.r 9 rfl (Runs.move rfl) ?_ (hJ := Fit.sub)
     refine D.r 10 rfl (Runs.idx (α := Pt) (xs := es) Try.underlying97 ty150 rfl rfl (Sl.f hl) (by omega) (by omega)) ?_ (hJ := Fit.sub)
     refine D.r 11 rfl (Runs.fld (α := Pt) (xs := es) fld150_1 rfl (Sl.f hl) (by omega)) ?_ (hJ := Fit.sub)
     refine D.r 12 rfl (Runs.getf (α := Pt) (xs := es) (u := I64 ((at_ es ((k : Nat) : Int)).v)) ty3 rfl (Sl.f hl) (by omega) (by omega) rfl) ?_ (hJ := Fit.sub)
     refine D.r 13 rfl (Runs.buildArr (cells := [_, _]) ty60 Try.underlying60 ty3 rfl rfl) ?_ (hJ := Fit.sub)
     refine D.r 14 rfl (Runs.fieldAddr fld99_1 rfl) ?_ (hJ := Fit.sub)
     refine D.r 15 rfl (Runs.ld ty97) ?_ (hJ := Fit.sub)
     refine D.r 16 rfl (Runs.move rfl) ?_ (hJ := Fit.sub)
     refine D.r 17 rfl (Runs.idx (α := Pt) (xs := es) Try.underlying97 ty150 rfl rfl (Sl.f hl) (by omega) (by omega)) ?_ (hJ := Fit.sub)
     refine D.r 18 rfl (Runs.fld (α := Pt) (xs := es) fld150_1 rfl (Sl.f hl) (by omega)) ?_ (hJ := Fit.sub)
     refine D.r 19 rfl (Runs.getf (α := Pt) (xs := es) (u := I64 ((at_ es ((k : Nat) : Int)).v)) ty3 rfl (Sl.f hl) (by omega) (by omega) rfl) ?_ (hJ := Fit.sub)
     refine D.r 20 rfl (Runs.fieldAddr fld99_1 rfl) ?_ (hJ := Fit.sub)
     refine D.r 21 rfl (Runs.ld ty97) ?_ (hJ := Fit.sub)
     refine D.r 22 rfl (Runs.move rfl) ?_ (hJ := Fit.sub)
     refine D.r 23 rfl (Runs.idx (α := Pt) (xs := es) Try.underlying97 ty150 rfl rfl (Sl.f hl) (by omega) (by omega)) ?_ (hJ := Fit.sub)
     refine D.r 24 rfl (Runs.fld (α := Pt) (xs := es) fld150_0 rfl (Sl.f hl) (by omega)) ?_ (hJ := Fit.sub)
     refine D.r 25 rfl (Runs.getf (α := Pt) (xs := es) (u := I64 ((at_ es ((k : Nat) : Int)).u)) ty3 rfl (Sl.f hl) (by omega) (by omega) rfl) ?_ (hJ := Fit.sub)
     refine D.r 26 rfl (Runs.buildArr (cells := [_, _]) ty60 Try.underlying60 ty3 rfl rfl) ?_ (hJ := Fit.sub)
     refine D.step (rs := [27]) (by kernel_rfl) rfl rfl (all1 ?_)
     refine Step.eff rfl (Wanted.plain rfl) (Eff.bs (α := Pt) (cs := [_, _, _, _]) (xs := [⟨(at_ es ((k : Nat) : Int)).u, (at_ es ((k : Nat) : Int)).v⟩, ⟨(at_ es ((k : Nat) : Int)).v, (at_ es ((k : Nat) : Int)).u⟩]) Try.underlying55 ty60 rfl rfl (by decide) (by decide) rfl rfl rfl rfl) ?_
     rintro _ _ ⟨ad3, rfl, rfl⟩
     refine ⟨Fit.sub, ?_⟩
     refine D.step (rs := [28]) (by kernel_rfl) rfl rfl (all1 ?_)
     refine Step.eff rfl (Wanted.plain rfl) (Eff.app (α := Pt) (e := 60) (xs := out) (ys := ([⟨(at_ es ((k : Nat) : Int)).u, (at_ es ((k : Nat) : Int)).v⟩, ⟨(at_ es ((k : Nat) : Int)).v, (at_ es ((k : Nat) : Int)).u⟩] : List Pt)) Try.underlying55 ty60 rfl rfl rfl (by repeat (first | exact List.mem_cons_self | apply List.mem_cons_of_mem)) Sl.o (by simp only [List.length_cons, List.length_nil]; omega) (by decide) rfl (fun _ _ => (by repeat (first | exact At.head _ _ _ | apply At.tail)))) ?_
     rintro _ _ ⟨ad4, cp5, rfl, rfl⟩
     refine ⟨Fit.sub, ?_⟩
     refine D.r 29 rfl (Runs.assign rfl) ?_ (hJ := Fit.sub)
     refine D.done (by kernel_rfl) ?_
     refine V.block_normal ?_
     refine V.then ?_
     refine W.sub (L' := [(7, _), (1, _), (2, _), (4, _), (8, _)]) (Sub.cons rfl (Sub.cons rfl (Sub.cons rfl (Sub.cons rfl (Sub.cons rfl Sub.nil))))) ?_
     refine W.region ?_
     refine G.r (Runs.move rfl) ?_
     refine G.r (Runs.add rfl rfl (by unfold InR; omega)) ?_
     refine G.r (Runs.assign rfl) ?_
     refine G.nil ?_
     exact V.next ((k + 1), (ad4), (cp5), (out ++ ([⟨(at_ es ((k : Nat) : Int)).u, (at_ es ((k : Nat) : Int)).v⟩, ⟨(at_ es ((k : Nat) : Int)).v, (at_ es ((k : Nat) : Int)).u⟩] : List Pt))) (show ((k + 1 : Nat) ≤ es.length) ∧ ((out ++ ([⟨(at_ es ((k : Nat) : Int)).u, (at_ es ((k : Nat) : Int)).v⟩, ⟨(at_ es ((k : Nat) : Int)).v, (at_ es ((k : Nat) : Int)).u⟩] : List Pt) : List Pt) = dbl (es.take (k + 1 : Nat))) from ⟨(by omega), (by rw [dbl_take (by omega), ← ho])⟩) (show es.length - (k + 1 : Nat) < es.length - k from (by omega)) (Sub.cons rfl (Sub.cons rfl (Sub.cons rfl (Sub.cons (lookV rfl (by first | rfl | simp)) (Sub.cons lookO Sub.nil))))) (show Fit κ _ (vc 60 (.slice (ad4) (out ++ ([⟨(at_ es ((k : Nat) : Int)).u, (at_ es ((k : Nat) : Int)).v⟩, ⟨(at_ es ((k : Nat) : Int)).v, (at_ es ((k : Nat) : Int)).u⟩] : List Pt)).length (cp5)) ((out ++ ([⟨(at_ es ((k : Nat) : Int)).u, (at_ es ((k : Nat) : Int)).v⟩, ⟨(at_ es ((k : Nat) : Int)).v, (at_ es ((k : Nat) : Int)).u⟩] : List Pt))) :: blk b2 [I64 (0), .slice none 0 0] 57 :: blk b1 [I64 (nd), v] 99 :: I) from Fit.sub)
    ·refine W.exit ?_
     refine V.then_exit ?_
     refine V.then_exit ?_
     refine V.block_hit ?_
     refine V.then ?_
     refine W.sr ?_
     refine G.r (Runs.move rfl) ?_
     refine G.r (Runs.move rfl) ?_
     refine G.e (Eff.call call168 rfl rfl (Sorted34_ok Sl.o (by omega))) ?_
     rintro _ _ ⟨_, _, ⟨ad6, cp7, rfl, rfl⟩, rfl, rfl⟩
     refine G.r (Runs.build (cells := [_, _]) ty57 Try.underlying57 pl57 rfl rfl) ?_
     refine G.e (Eff.st (cs := [_, _]) (vs := [_, _]) (cs' := [_, _]) ty57) ?_
     rintro _ _ ⟨rfl, rfl⟩
     refine G.r (Runs.assign rfl) ?_
     refine G.nt ?_
     refine W.sub (L' := [(5, _), (4, _)]) (Sub.cons rfl (Sub.cons rfl Sub.nil)) ?_
     refine W.ret ?_
     have hk2 : es.take k = es := List.take_of_length_le (by omega)
     rw [hk2] at ho
     subst ho
     exact V.retc1 rfl ty57 rfl rfl (by repeat (first | exact List.mem_cons_self | apply List.mem_cons_of_mem)) rfl (vc 60 (.slice ad6 (both es).length cp7) (both es) :: I) Fit.sub ⟨_, _, rfl, rfl⟩

theorem Patch34_ok {κ : Ctx} {I : List Item} {n : Int} {la : Option Addr} {lc : Nat} {l add cut : List Pt} {va vd : Value} (hl : Sl κ I (.slice la l.length lc) l) (ha : Sl κ I va add) (hd : Sl κ I vd cut) (hv : RunOk n l) (hra : ∀ p ∈ add, p.right) (hrc : ∀ p ∈ cut, p.right) (hb : l.length + add.length + cut.length < 1000000) :
    CallS Try.prog κ 109 [.agg #[I64 (n), .slice la l.length lc], va, vd] I (fun r J => ∃ a c, r = .tuple #[.agg #[I64 n, .slice a (patchL l add cut).length c], I64 0] ∧ J = vc 60 (.slice a (patchL l add cut).length c) (patchL l add cut) :: I) := by
 refine CallS.pull hl.le fun hmax => ?_
 have hal : (add ++ cut).length = add.length + cut.length := List.length_append
 have hal2 : (l ++ add).length = l.length + add.length := List.length_append
 refine CallS.enter (L := [(0, .agg #[I64 (n), .slice la l.length lc]), (1, va), (2, vd)]) Try.func109 rfl rfl rfl rfl ?_
 refine W.sr ?_
 refine G.e (Eff.box (cs := [_, _]) rfl rfl rfl) ?_
 rintro _ _ ⟨b1, rfl, rfl⟩
 refine G.e (Eff.alloc ty57 rfl) ?_
 rintro _ _ ⟨b2, rfl, rfl⟩
 refine G.r (Runs.assign rfl) ?_
 refine G.nt ?_
 refine W.seq ?_
 refine W.sr ?_
 refine G.r (Runs.lds (vs := [_, _]) ty57) ?_
 refine G.e (Eff.call call169 rfl rfl (Check34_ok (Sl.f hl) hv)) ?_
 rintro _ _ ⟨_, _, ⟨rfl, rfl⟩, rfl, rfl⟩
 refine G.r (Runs.assign rfl) ?_
 refine G.nt ?_
 refine W.sr ?_
 refine G.r (Runs.move rfl) ?_
 refine G.r (Runs.neq rfl rfl) ?_
 refine G.nt ?_
 refine W.ite rfl (fun c17 => ?_) (fun c17 => ?_)
 ·exact absurd rfl c17
 ·refine W.skip ?_
  refine V.then ?_
  refine W.sr ?_
  refine G.r (Runs.move rfl) ?_
  refine G.e (Eff.clone (α := Pt) (ys := add) Try.underlying55 ty60 rfl rfl rfl (Sl.f ha) (by first | omega | (simp only [List.length_append, List.length_cons, List.length_nil]; omega)) (by decide) rfl) ?_
  rintro _ _ ⟨ad3, cp4, rfl, rfl⟩
  refine G.r (Runs.move rfl) ?_
  refine G.e (Eff.app (α := Pt) (e := 60) (xs := add) (ys := cut) Try.underlying55 ty60 rfl rfl rfl (by repeat (first | exact List.mem_cons_self | apply List.mem_cons_of_mem)) (Sl.f hd) (by first | omega | (simp only [List.length_append, List.length_cons, List.length_nil]; omega)) (by decide) rfl (fun _ _ => (by repeat (first | exact At.head _ _ _ | apply At.tail)))) ?_
  rintro _ _ ⟨ad5, cp6, rfl, rfl⟩
  refine G.r (Runs.assign rfl) ?_
  refine G.nt ?_
  refine W.sub (L' := [(9, _), (6, _), (3, _), (1, _), (2, _)]) (Sub.cons rfl (Sub.cons rfl (Sub.cons rfl (Sub.cons rfl (Sub.cons rfl Sub.nil))))) ?_
  refine W.seq ?_
  refine W.sr ?_
  refine G.r (Runs.assign rfl) ?_
  refine G.nt ?_
  refine W.block ?_
  refine W.loop (σ := Nat) (fun s => ([(1, va), (2, vd), (3, .pointer (some ⟨b1, 0, none⟩)), (6, .pointer (some ⟨b2, 0, none⟩)), (9, .slice ad5 (add ++ cut).length cp6), (10, I64 (((s : Nat) : Int)))] : Env)) (fun s => vc 60 (.slice ad5 (add ++ cut).length cp6) (add ++ cut) :: blk b2 [I64 (0), .slice none 0 0] 57 :: blk b1 [I64 (n), .slice la l.length lc] 57 :: I) (fun s => (s ≤ (add ++ cut).length)) (fun s => (add ++ cut).length - s) (0) (show ((0 : Nat) ≤ (add ++ cut).length) from (by omega)) (Sub.cons rfl (Sub.cons rfl (Sub.cons rfl (Sub.cons rfl (Sub.cons rfl (Sub.cons lookO Sub.nil)))))) (show Fit κ _ (vc 60 (.slice ad5 (add ++ cut).length cp6) (add ++ cut) :: blk b2 [I64 (0), .slice none 0 0] 57 :: blk b1 [I64 (n), .slice la l.length lc] 57 :: I) from Fit.sub) ?_
  rintro k hp
  have hk : (k ≤ (add ++ cut).length) := hp
  show W Try.prog κ 69 _ _ ([(1, va), (2, vd), (3, .pointer (some ⟨b1, 0, none⟩)), (6, .pointer (some ⟨b2, 0, none⟩)), (9, .slice ad5 (add ++ cut).length cp6), (10, I64 (((k : Nat) : Int)))] : Env) (vc 60 (.slice ad5 (add ++ cut).length cp6) (add ++ cut) :: blk b2 [I64 (0), .slice none 0 0] 57 :: blk b1 [I64 (n), .slice la l.length lc] 57 :: I)
  refine W.seq ?_
  refine W.sr ?_
  refine G.r (Runs.move rfl) ?_
  refine G.r (Runs.move rfl) ?_
  refine G.r (Runs.lens Try.underlying55 rfl) ?_
  refine G.r (Runs.lss rfl rfl) ?_
  refine G.nt ?_
  refine W.ite rfl (fun c27 => ?_) (fun c27 => ?_)
  ·refine W.skip ?_
   refine V.then ?_
   refine W.seq ?_
   refine W.block ?_
   refine W.sr ?_
   refine G.r (Runs.move rfl) ?_
   refine G.r (Runs.move rfl) ?_
   refine G.r (Runs.idx (α := Pt) (xs := add ++ cut) Try.underlying55 ty60 rfl rfl Sl.o (by omega) (by first | omega | (simp only [List.length_append]; omega))) ?_
   refine G.r (Runs.gets (α := Pt) (xs := add ++ cut) ty60 rfl Sl.o (by omega) (by first | omega | (simp only [List.length_append]; omega))) ?_
   refine G.e (Eff.call call170 rfl rfl (Right34_ok (at_ (add ++ cut) ((k : Nat) : Int)))) ?_
   rintro _ _ ⟨_, _, ⟨rfl, rfl⟩, rfl, rfl⟩
   refine G.r (Runs.notd rfl) ?_
   refine G.nt ?_
   refine W.sub (L' := [(35, _), (1, _), (2, _), (3, _), (6, _), (9, _), (10, _)]) (Sub.cons rfl (Sub.cons rfl (Sub.cons rfl (Sub.cons rfl (Sub.cons rfl (Sub.cons rfl (Sub.cons rfl Sub.nil))))))) ?_
   refine W.ite rfl (fun c35 => ?_) (fun c35 => ?_)
   ·exact absurd ((List.mem_append.1 (at_mem (xs := add ++ cut) (by omega) (by simp only [List.length_append] at *; omega))).elim (hra _) (hrc _)) c35
   ·refine W.skip ?_
    refine V.block_normal ?_
    refine V.then ?_
    refine W.region ?_
    refine G.r (Runs.move rfl) ?_
    refine G.r (Runs.add rfl rfl (by unfold InR; omega)) ?_
    refine G.r (Runs.assign rfl) ?_
    refine G.nil ?_
    exact V.next ((k + 1)) (show ((k + 1 : Nat) ≤ (add ++ cut).length) from (by omega)) (show (add ++ cut).length - (k + 1 : Nat) < (add ++ cut).length - k from (by omega)) (Sub.cons rfl (Sub.cons rfl (Sub.cons rfl (Sub.cons rfl (Sub.cons rfl (Sub.cons lookO Sub.nil)))))) (show Fit κ _ (vc 60 (.slice ad5 (add ++ cut).length cp6) (add ++ cut) :: blk b2 [I64 (0), .slice none 0 0] 57 :: blk b1 [I64 (n), .slice la l.length lc] 57 :: I) from Fit.sub)
  ·refine W.exit ?_
   refine V.then_exit ?_
   refine V.then_exit ?_
   refine V.block_hit ?_
   refine V.then ?_
   refine W.sr ?_
   refine G.r (Runs.fieldAddr fld57_1 rfl) ?_
   refine G.r (Runs.ld ty55) ?_
   refine G.e (Eff.clone (α := Pt) (ys := l) Try.underlying55 ty60 rfl rfl rfl (Sl.f hl) (by first | omega | (simp only [List.length_append, List.length_cons, List.length_nil]; omega)) (by decide) rfl) ?_
   rintro _ _ ⟨ad7, cp8, rfl, rfl⟩
   refine G.r (Runs.move rfl) ?_
   refine G.e (Eff.app (α := Pt) (e := 60) (xs := l) (ys := add) Try.underlying55 ty60 rfl rfl rfl (by repeat (first | exact List.mem_cons_self | apply List.mem_cons_of_mem)) (Sl.f ha) (by first | omega | (simp only [List.length_append, List.length_cons, List.length_nil]; omega)) (by decide) rfl (fun _ _ => (by repeat (first | exact At.head _ _ _ | apply At.tail)))) ?_
   rintro _ _ ⟨ad9, cp10, rfl, rfl⟩
   refine G.e (Eff.call call168 rfl rfl (Sorted34_ok Sl.o (by omega))) ?_
   rintro _ _ ⟨_, _, ⟨ad11, cp12, rfl, rfl⟩, rfl, rfl⟩
   refine G.r (Runs.assign rfl) ?_
   refine G.nt ?_
   refine W.sub (L' := [(11, _), (2, _), (3, _), (6, _)]) (Sub.cons rfl (Sub.cons rfl (Sub.cons rfl (Sub.cons rfl Sub.nil)))) ?_
   refine W.sr ?_
   refine G.r (Runs.fieldAddr fld57_0 rfl) ?_
   refine G.r (Runs.ld ty3) ?_
   refine G.r (Runs.build (cells := [_, _]) ty57 Try.underlying57 pl57 rfl rfl) ?_
   refine G.e (Eff.alloc ty57 rfl) ?_
   rintro _ _ ⟨b13, rfl, rfl⟩
   refine G.e (Eff.st (cs := [_, _]) (vs := [_, _]) (cs' := [_, _]) ty57) ?_
   rintro _ _ ⟨rfl, rfl⟩
   refine G.nt ?_
   refine W.seq ?_
   refine W.sr ?_
   refine G.r (Runs.assign rfl) ?_
   refine G.nt ?_
   refine W.block ?_
   refine W.loop (σ := Nat × (Option Addr) × Nat × (List Pt)) (fun s => ([(2, vd), (6, .pointer (some ⟨b2, 0, none⟩)), (11, .slice ad11 (sortB Pt.lt (l ++ add)).length cp12), (12, .pointer (some ⟨b13, 0, none⟩)), (13, I64 (((s.1 : Nat) : Int)))] : Env)) (fun s => vc 60 (.slice s.2.1 s.2.2.2.length s.2.2.1) (s.2.2.2) :: blk b13 [I64 (n), .slice s.2.1 s.2.2.2.length s.2.2.1] 57 :: vc 60 (.slice ad11 (sortB Pt.lt (l ++ add)).length cp12) (sortB Pt.lt (l ++ add)) :: vc 60 (.slice ad9 (l ++ add).length cp10) (l ++ add) :: vc 60 (.slice ad5 (add ++ cut).length cp6) (add ++ cut) :: blk b2 [I64 (0), .slice none 0 0] 57 :: blk b1 [I64 (n), .slice la l.length lc] 57 :: I) (fun s => (s.1 ≤ (sortB Pt.lt (l ++ add)).length) ∧ (s.2.2.2 = ((sortB Pt.lt (l ++ add)).take s.1).filter fun p => decide (p ∉ cut))) (fun s => (sortB Pt.lt (l ++ add)).length - s.1) (0, none, 0, []) (show ((0 : Nat) ≤ (sortB Pt.lt (l ++ add)).length) ∧ (([] : List Pt) = ((sortB Pt.lt (l ++ add)).take (0 : Nat)).filter fun p => decide (p ∉ cut)) from ⟨(by omega), rfl⟩) (Sub.cons rfl (Sub.cons rfl (Sub.cons rfl (Sub.cons rfl (Sub.cons lookO Sub.nil))))) (show Fit κ _ (vc 60 (.slice (none) ([]).length (0)) (([])) :: blk b13 [I64 (n), .slice (none) ([]).length (0)] 57 :: vc 60 (.slice ad11 (sortB Pt.lt (l ++ add)).length cp12) (sortB Pt.lt (l ++ add)) :: vc 60 (.slice ad9 (l ++ add).length cp10) (l ++ add) :: vc 60 (.slice ad5 (add ++ cut).length cp6) (add ++ cut) :: blk b2 [I64 (0), .slice none 0 0] 57 :: blk b1 [I64 (n), .slice la l.length lc] 57 :: I) from (Fit.nilvc _ _)) ?_
   rintro ⟨k, a, c, out⟩ hp
   obtain ⟨hk, ho⟩ : (k ≤ (sortB Pt.lt (l ++ add)).length) ∧ (out = ((sortB Pt.lt (l ++ add)).take k).filter fun p => decide (p ∉ cut)) := hp
   show W Try.prog κ 69 _ _ ([(2, vd), (6, .pointer (some ⟨b2, 0, none⟩)), (11, .slice ad11 (sortB Pt.lt (l ++ add)).length cp12), (12, .pointer (some ⟨b13, 0, none⟩)), (13, I64 (((k : Nat) : Int)))] : Env) (vc 60 (.slice a out.length c) (out) :: blk b13 [I64 (n), .slice a out.length c] 57 :: vc 60 (.slice ad11 (sortB Pt.lt (l ++ add)).length cp12) (sortB Pt.lt (l ++ add)) :: vc 60 (.slice ad9 (l ++ add).length cp10) (l ++ add) :: vc 60 (.slice ad5 (add ++ cut).length cp6) (add ++ cut) :: blk b2 [I64 (0), .slice none 0 0] 57 :: blk b1 [I64 (n), .slice la l.length lc] 57 :: I)
   have hsl := sortB_len (lt := Pt.lt) (l ++ add)
   rw [List.length_append] at hsl
   have hol : out.length ≤ l.length + add.length := by rw [ho]; refine Nat.le_trans (List.length_filter_le _ _) ?_; simp only [List.length_take]; omega
   refine W.seq ?_
   refine W.sr ?_
   refine G.r (Runs.move rfl) ?_
   refine G.r (Runs.move rfl) ?_
   refine G.r (Runs.lens Try.underlying55 rfl) ?_
   refine G.r (Runs.lss rfl rfl) ?_
   refine G.nt ?_
   refine W.ite rfl (fun c49 => ?_) (fun c49 => ?_)
   ·refine W.skip ?_
    refine V.then ?_
    refine W.seq ?_
    refine W.block ?_
    refine W.sr ?_
    refine G.r (Runs.move rfl) ?_
    refine G.r (Runs.move rfl) ?_
    refine G.r (Runs.move rfl) ?_
    refine G.r (Runs.idx (α := Pt) (xs := sortB Pt.lt (l ++ add)) Try.underlying55 ty60 rfl rfl Sl.o (by omega) (by first | omega | (simp only [List.length_append]; omega))) ?_
    refine G.r (Runs.gets (α := Pt) (xs := sortB Pt.lt (l ++ add)) ty60 rfl Sl.o (by omega) (by first | omega | (simp only [List.length_append]; omega))) ?_
    refine G.e (Eff.call call171 rfl rfl (Has34_ok (Sl.f hd) (at_ (sortB Pt.lt (l ++ add)) ((k : Nat) : Int)))) ?_
    rintro _ _ ⟨_, _, ⟨rfl, rfl⟩, rfl, rfl⟩
    refine G.r (Runs.notd rfl) ?_
    refine G.nt ?_
    refine W.sub (L' := [(58, _), (2, _), (6, _), (11, _), (12, _), (13, _)]) (Sub.cons rfl (Sub.cons rfl (Sub.cons rfl (Sub.cons rfl (Sub.cons rfl (Sub.cons rfl Sub.nil)))))) ?_
    refine W.ite rfl (fun c58 => ?_) (fun c58 => ?_)
    ·refine W.drawn mixed ?_
     refine A.hold (blk b13 [I64 (n), .slice a out.length c] 57 :: vc 60 (.slice ad11 (sortB Pt.lt (l ++ add)).length cp12) (sortB Pt.lt (l ++ add)) :: vc 60 (.slice ad9 (l ++ add).length cp10) (l ++ add) :: vc 60 (.slice ad5 (add ++ cut).length cp6) (add ++ cut) :: blk b2 [I64 (0), .slice none 0 0] 57 :: blk b1 [I64 (n), .slice la l.length lc] 57 :: I) 9 ?_
     refine D.r 0 rfl (Runs.fieldAddr fld57_1 rfl) ?_ (hJ := Fit.sub)
     refine D.r 1 rfl (Runs.ld ty55) ?_ (hJ := Fit.sub)
     refine D.r 2 rfl (Runs.move rfl) ?_ (hJ := Fit.sub)
     refine D.r 3 rfl (Runs.move rfl) ?_ (hJ := Fit.sub)
     refine D.r 4 rfl (Runs.idx (α := Pt) (xs := sortB Pt.lt (l ++ add)) Try.underlying55 ty60 rfl rfl Sl.o (by omega) (by first | omega | (simp only [List.length_append]; omega))) ?_ (hJ := Fit.sub)
     refine D.r 5 rfl (Runs.gets (α := Pt) (xs := sortB Pt.lt (l ++ add)) ty60 rfl Sl.o (by omega) (by first | omega | (simp only [List.length_append]; omega))) ?_ (hJ := Fit.sub)
     refine D.step (rs := [6]) (by kernel_rfl) rfl rfl (all1 ?_)
     refine Step.eff rfl (Wanted.plain rfl) (Eff.bs (α := Pt) (cs := [_, _]) (xs := [⟨(at_ (sortB Pt.lt (l ++ add)) ((k : Nat) : Int)).u, (at_ (sortB Pt.lt (l ++ add)) ((k : Nat) : Int)).v⟩]) Try.underlying55 ty60 rfl rfl (by decide) (by decide) rfl rfl rfl rfl) ?_
     rintro _ _ ⟨ad14, rfl, rfl⟩
     refine ⟨Fit.sub, ?_⟩
     refine D.step (rs := [7]) (by kernel_rfl) rfl rfl (all1 ?_)
     refine Step.eff rfl (Wanted.plain rfl) (Eff.app (α := Pt) (e := 60) (xs := out) (ys := ([⟨(at_ (sortB Pt.lt (l ++ add)) ((k : Nat) : Int)).u, (at_ (sortB Pt.lt (l ++ add)) ((k : Nat) : Int)).v⟩] : List Pt)) Try.underlying55 ty60 rfl rfl rfl (by repeat (first | exact List.mem_cons_self | apply List.mem_cons_of_mem)) Sl.o (by first | omega | (simp only [List.length_append, List.length_cons, List.length_nil]; omega)) (by decide) rfl (fun _ _ => (by repeat (first | exact At.head _ _ _ | apply At.tail)))) ?_
     rintro _ _ ⟨ad15, cp16, rfl, rfl⟩
     refine ⟨Fit.sub, ?_⟩
     refine D.r 8 rfl (Runs.fieldAddr fld57_1 rfl) ?_ (hJ := Fit.sub)
     refine D.stop (by kernel_rfl) ?_
     refine A.eff (i := 9) (by kernel_rfl) rfl (Wanted.plain rfl) (Eff.st (cs := [_, _]) (vs := [_]) (cs' := [_, _]) ty55) ?_
     rintro _ _ ⟨rfl, rfl⟩
     refine A.done (by kernel_rfl) ?_
     refine V.block_normal ?_
     refine V.then ?_
     refine W.sub (L' := [(2, _), (6, _), (11, _), (12, _), (13, _)]) (Sub.cons rfl (Sub.cons rfl (Sub.cons rfl (Sub.cons rfl (Sub.cons rfl Sub.nil))))) ?_
     refine W.region ?_
     refine G.r (Runs.move rfl) ?_
     refine G.r (Runs.add rfl rfl (by unfold InR; omega)) ?_
     refine G.r (Runs.assign rfl) ?_
     refine G.nil ?_
     exact V.next ((k + 1), (ad15), (cp16), (out ++ ([⟨(at_ (sortB Pt.lt (l ++ add)) ((k : Nat) : Int)).u, (at_ (sortB Pt.lt (l ++ add)) ((k : Nat) : Int)).v⟩] : List Pt))) (show ((k + 1 : Nat) ≤ (sortB Pt.lt (l ++ add)).length) ∧ ((out ++ ([⟨(at_ (sortB Pt.lt (l ++ add)) ((k : Nat) : Int)).u, (at_ (sortB Pt.lt (l ++ add)) ((k : Nat) : Int)).v⟩] : List Pt) : List Pt) = ((sortB Pt.lt (l ++ add)).take (k + 1 : Nat)).filter fun p => decide (p ∉ cut)) from ⟨(by omega), (by first | rw [flt_yes (by omega) (decide_eq_true c58), ← ho] | rw [flt_no (by omega) (decide_eq_false c58), ← ho])⟩) (show (sortB Pt.lt (l ++ add)).length - (k + 1 : Nat) < (sortB Pt.lt (l ++ add)).length - k from (by omega)) (Sub.cons rfl (Sub.cons rfl (Sub.cons rfl (Sub.cons rfl (Sub.cons lookO Sub.nil))))) (show Fit κ _ (vc 60 (.slice (ad15) (out ++ ([⟨(at_ (sortB Pt.lt (l ++ add)) ((k : Nat) : Int)).u, (at_ (sortB Pt.lt (l ++ add)) ((k : Nat) : Int)).v⟩] : List Pt)).length (cp16)) ((out ++ ([⟨(at_ (sortB Pt.lt (l ++ add)) ((k : Nat) : Int)).u, (at_ (sortB Pt.lt (l ++ add)) ((k : Nat) : Int)).v⟩] : List Pt))) :: blk b13 [I64 (n), .slice (ad15) (out ++ ([⟨(at_ (sortB Pt.lt (l ++ add)) ((k : Nat) : Int)).u, (at_ (sortB Pt.lt (l ++ add)) ((k : Nat) : Int)).v⟩] : List Pt)).length (cp16)] 57 :: vc 60 (.slice ad11 (sortB Pt.lt (l ++ add)).length cp12) (sortB Pt.lt (l ++ add)) :: vc 60 (.slice ad9 (l ++ add).length cp10) (l ++ add) :: vc 60 (.slice ad5 (add ++ cut).length cp6) (add ++ cut) :: blk b2 [I64 (0), .slice none 0 0] 57 :: blk b1 [I64 (n), .slice la l.length lc] 57 :: I) from Fit.sub)
    ·refine W.skip ?_
     refine V.block_normal ?_
     refine V.then ?_
     refine W.region ?_
     refine G.r (Runs.move rfl) ?_
     refine G.r (Runs.add rfl rfl (by unfold InR; omega)) ?_
     refine G.r (Runs.assign rfl) ?_
     refine G.nil ?_
     exact V.next ((k + 1), (a), (c), (out)) (show ((k + 1 : Nat) ≤ (sortB Pt.lt (l ++ add)).length) ∧ ((out : List Pt) = ((sortB Pt.lt (l ++ add)).take (k + 1 : Nat)).filter fun p => decide (p ∉ cut)) from ⟨(by omega), (by first | rw [flt_yes (by omega) (decide_eq_true c58), ← ho] | rw [flt_no (by omega) (decide_eq_false c58), ← ho])⟩) (show (sortB Pt.lt (l ++ add)).length - (k + 1 : Nat) < (sortB Pt.lt (l ++ add)).length - k from (by omega)) (Sub.cons rfl (Sub.cons rfl (Sub.cons rfl (Sub.cons rfl (Sub.cons lookO Sub.nil))))) (show Fit κ _ (vc 60 (.slice (a) (out).length (c)) ((out)) :: blk b13 [I64 (n), .slice (a) (out).length (c)] 57 :: vc 60 (.slice ad11 (sortB Pt.lt (l ++ add)).length cp12) (sortB Pt.lt (l ++ add)) :: vc 60 (.slice ad9 (l ++ add).length cp10) (l ++ add) :: vc 60 (.slice ad5 (add ++ cut).length cp6) (add ++ cut) :: blk b2 [I64 (0), .slice none 0 0] 57 :: blk b1 [I64 (n), .slice la l.length lc] 57 :: I) from Fit.sub)
   ·refine W.exit ?_
    refine V.then_exit ?_
    refine V.then_exit ?_
    refine V.block_hit ?_
    refine V.then ?_
    refine W.sr ?_
    refine G.r (Runs.lds (vs := [_, _]) ty57) ?_
    refine G.e (Eff.st (cs := [_, _]) (vs := [_, _]) (cs' := [_, _]) ty57) ?_
    rintro _ _ ⟨rfl, rfl⟩
    refine G.r (Runs.assign rfl) ?_
    refine G.nt ?_
    refine W.ret ?_
    have hk2 : (sortB Pt.lt (l ++ add)).take k = sortB Pt.lt (l ++ add) := List.take_of_length_le (by omega)
    rw [hk2] at ho
    subst ho
    exact V.retc1 rfl ty57 rfl rfl (by repeat (first | exact List.mem_cons_self | apply List.mem_cons_of_mem)) rfl (vc 60 (.slice a (patchL l add cut).length c) (patchL l add cut) :: I) Fit.sub ⟨_, _, rfl, rfl⟩

end Go.Sl
namespace Go.Sl
open Go.Proofs
set_option linter.unusedVariables false
set_option linter.unusedSimpArgs false
set_option maxRecDepth 4000
def Rec (p : Pt) : Prop := p.right ∧ p.u < 7 ∧ p.v < 7
theorem rec_right {u d : Int} (hu : 0 ≤ u ∧ u < 7) (hd : 0 ≤ d ∧ d < 6) : Rec ⟨u, Int.tmod (u + 1 + d) 7⟩ := by
  rw [Int.tmod_eq_emod_of_nonneg (by omega)]; unfold Rec Pt.right; simp only; omega
theorem rec_push {rs : List Pt} {p : Pt} (h : ∀ p ∈ rs, Rec p) (hp : Rec p) : ∀ q ∈ rs ++ [p], Rec q := fun q hq => by
  rcases List.mem_append.1 hq with hq | hq
  · exact h q hq
  · rw [List.mem_singleton.1 hq]; exact hp
theorem tmod7 {x : Int} (h : 0 ≤ x) : 0 ≤ Int.tmod x 7 ∧ Int.tmod x 7 < 7 := by rw [Int.tmod_eq_emod_of_nonneg h]; omega

theorem Records_base {κ : Ctx} {I : List Item} {b : Nat} {lv : Value} {ls : List Int} {i : Int} {most : Int} (hl : ∀ q, Sl κ (deck b lv q :: I) lv ls) (h0 : 0 ≤ i)  (hm : 0 ≤ most ∧ most ≤ 1000) :
    CallS Try.prog κ 63 [.pointer (some ⟨b, 0, none⟩), I64 (most)] (blk b [lv, I64 (i)] 129 :: I) (fun r J => ∃ y : (Option Addr) × Nat × (List Pt) × Int, ((r = .slice y.1 y.2.2.1.length y.2.1 ∧ ((∀ p ∈ y.2.2.1, Rec p) ∧ (y.2.2.1.length : Int) ≤ most)) ∧ 0 ≤ y.2.2.2) ∧ J = [vc 60 (.slice y.1 y.2.2.1.length y.2.1) y.2.2.1] ++ deck b lv y.2.2.2 :: I) := by
 refine CallS.enter (L := [(0, .pointer (some ⟨b, 0, none⟩)), (1, I64 (most))]) Try.func63 rfl rfl rfl rfl ?_
 refine W.sr ?_
 refine G.r (Runs.assign rfl) ?_
 refine G.nt ?_
 refine W.sr ?_
 refine G.r (Runs.assign rfl) ?_
 refine G.nt ?_
 refine W.seq ?_
 refine W.sr ?_
 refine G.r (Runs.move rfl) ?_
 refine G.r (Runs.move rfl) ?_
 refine G.r (Runs.add rfl rfl (by unfold InR; omega)) ?_
 refine G.e (Eff.call call25 rfl rfl (Next_ok (by repeat (first | exact AtF.head _ _ | apply AtF.tail)) (Sl.fit (hl _) Fit.m) (by omega) (by omega))) ?_
 rintro _ _ ⟨_, _, ⟨x1, i2, rfl, hx1, hi2, rfl⟩, rfl, rfl⟩
 show G Try.prog κ _ _ _ _ ([(11, I64 (x1)), (10, I64 (most + 1)), (9, I64 (most)), (8, .pointer (some ⟨b, 0, none⟩)), (5, .slice none 0 0), (4, .slice none 0 0), (0, .pointer (some ⟨b, 0, none⟩)), (1, I64 (most))] : Env) (blk b [lv, I64 (i2)] 129 :: I)
 refine G.r (Runs.assign rfl) ?_
 refine G.nt ?_
 refine W.block ?_
 refine W.loop (σ := Int × Int × (Option Addr) × Nat × (List Pt)) (fun s => ([(0, .pointer (some ⟨b, 0, none⟩)), (5, .slice s.2.2.1 s.2.2.2.2.length s.2.2.2.1), (6, I64 (s.1))] : Env)) (fun s => vc 60 (.slice s.2.2.1 s.2.2.2.2.length s.2.2.2.1) (s.2.2.2.2) :: blk b [lv, I64 (s.2.1)] 129 :: I) (fun s => (0 ≤ s.1) ∧ (0 ≤ s.2.1) ∧ (∀ p ∈ s.2.2.2.2, Rec p) ∧ ((s.2.2.2.2.length : Int) + s.1 ≤ most)) (fun s => s.1.toNat) (x1, i2, none, 0, []) (show (0 ≤ (x1 : Int)) ∧ (0 ≤ (i2 : Int)) ∧ (∀ p ∈ ([] : List Pt), Rec p) ∧ ((([] : List Pt).length : Int) + (x1 : Int) ≤ most) from ⟨(by omega), (by omega), (fun p hp => by cases hp), (by simp only [List.length_nil]; omega)⟩) (Sub.cons rfl (Sub.cons (lookV rfl (by first | rfl | simp)) (Sub.cons lookO Sub.nil))) (show Fit κ _ (vc 60 (.slice (none) ([]).length (0)) (([])) :: blk b [lv, I64 ((i2))] 129 :: I) from (Fit.nilvc _ _)) ?_
 rintro ⟨kk, iq, a, c, rs⟩ hp
 obtain ⟨hkk, hiq, hall, hlen⟩ : (0 ≤ kk) ∧ (0 ≤ iq) ∧ (∀ p ∈ rs, Rec p) ∧ ((rs.length : Int) + kk ≤ most) := hp
 show W Try.prog κ 30 _ _ ([(0, .pointer (some ⟨b, 0, none⟩)), (5, .slice a rs.length c), (6, I64 (kk))] : Env) (vc 60 (.slice a rs.length c) (rs) :: blk b [lv, I64 (iq)] 129 :: I)
 refine W.seq ?_
 refine W.sr ?_
 refine G.r (Runs.move rfl) ?_
 refine G.r (Runs.gtr rfl rfl) ?_
 refine G.nt ?_
 refine W.ite rfl (fun c13 => ?_) (fun c13 => ?_)
 ·refine W.skip ?_
  refine V.then ?_
  refine W.seq ?_
  refine W.block ?_
  refine W.sr ?_
  refine G.r (Runs.move rfl) ?_
  refine G.e (Eff.call call25 rfl rfl (Next_ok (by repeat (first | exact AtF.head _ _ | apply AtF.tail)) (Sl.fit (hl _) Fit.m) (by omega) (by omega))) ?_
  rintro _ _ ⟨_, _, ⟨x3, i4, rfl, hx3, hi4, rfl⟩, rfl, rfl⟩
  show G Try.prog κ _ _ _ _ ([(17, I64 (x3)), (16, .pointer (some ⟨b, 0, none⟩)), (13, .bool (decide (0 < kk))), (12, I64 (kk)), (0, .pointer (some ⟨b, 0, none⟩)), (5, .slice a rs.length c), (6, I64 (kk))] : Env) (vc 60 (.slice a rs.length c) (rs) :: blk b [lv, I64 (i4)] 129 :: I)
  refine G.r (Runs.assign rfl) ?_
  refine G.nt ?_
  refine W.region ?_
  refine G.r (Runs.move rfl) ?_
  refine G.r (Runs.move rfl) ?_
  refine G.r (Runs.move rfl) ?_
  refine G.r (Runs.add rfl rfl (by unfold InR; omega)) ?_
  refine G.r (Runs.move rfl) ?_
  refine G.e (Eff.call call25 rfl rfl (Next_ok (by repeat (first | exact AtF.head _ _ | apply AtF.tail)) (Sl.fit (hl _) Fit.m) (by omega) (by omega))) ?_
  rintro _ _ ⟨_, _, ⟨x5, i6, rfl, hx5, hi6, rfl⟩, rfl, rfl⟩
  show G Try.prog κ _ _ _ _ ([(23, I64 (x5)), (22, .pointer (some ⟨b, 0, none⟩)), (21, I64 (x3 + 1)), (20, I64 (x3)), (19, I64 (x3)), (18, .slice a rs.length c), (7, I64 (x3)), (17, I64 (x3)), (16, .pointer (some ⟨b, 0, none⟩)), (13, .bool (decide (0 < kk))), (12, I64 (kk)), (0, .pointer (some ⟨b, 0, none⟩)), (5, .slice a rs.length c), (6, I64 (kk))] : Env) (vc 60 (.slice a rs.length c) (rs) :: blk b [lv, I64 (i6)] 129 :: I)
  refine G.r (Runs.add rfl rfl (by unfold InR; omega)) ?_
  refine G.r (Runs.rem rfl rfl (by omega)) ?_
  refine G.r (Runs.buildArr (cells := [_, _]) ty60 Try.underlying60 ty3 rfl rfl) ?_
  refine G.e (Eff.bs (α := Pt) (cs := [_, _]) (xs := [⟨x3, Int.tmod ((x3 + 1) + x5) 7⟩]) Try.underlying55 ty60 rfl rfl (by decide) (by decide) rfl rfl rfl rfl) ?_
  rintro _ _ ⟨ad7, rfl, rfl⟩
  refine G.e (Eff.app (α := Pt) (e := 60) (xs := rs) (ys := ([⟨x3, Int.tmod ((x3 + 1) + x5) 7⟩] : List Pt)) Try.underlying55 ty60 rfl rfl rfl (by repeat (first | exact List.mem_cons_self | apply List.mem_cons_of_mem)) Sl.o (by simp only [List.length_cons, List.length_nil]; omega) (by decide) rfl (fun _ _ => (by repeat (first | exact At.head _ _ _ | apply At.tail)))) ?_
  rintro _ _ ⟨ad8, cp9, rfl, rfl⟩
  refine G.r (Runs.assign rfl) ?_
  refine G.nil ?_
  refine V.block_normal ?_
  refine V.then ?_
  refine W.sub (L' := [(5, _), (0, _), (6, _)]) (Sub.cons rfl (Sub.cons rfl (Sub.cons rfl Sub.nil))) ?_
  refine W.region ?_
  refine G.r (Runs.move rfl) ?_
  refine G.r (Runs.sub rfl rfl (by unfold InR; omega)) ?_
  refine G.r (Runs.assign rfl) ?_
  refine G.nil ?_
  exact V.next ((kk - 1), (i6), (ad8), (cp9), (rs ++ ([⟨x3, Int.tmod ((x3 + 1) + x5) 7⟩] : List Pt))) (show (0 ≤ (kk - 1 : Int)) ∧ (0 ≤ (i6 : Int)) ∧ (∀ p ∈ (rs ++ ([⟨x3, Int.tmod ((x3 + 1) + x5) 7⟩] : List Pt) : List Pt), Rec p) ∧ (((rs ++ ([⟨x3, Int.tmod ((x3 + 1) + x5) 7⟩] : List Pt) : List Pt).length : Int) + (kk - 1 : Int) ≤ most) from ⟨(by omega), (by omega), (rec_push hall (rec_right (by omega) (by omega))), (by simp only [List.length_append, List.length_cons, List.length_nil]; omega)⟩) (show (kk - 1 : Int).toNat < kk.toNat from (by omega)) (Sub.cons rfl (Sub.cons (lookV rfl (by first | rfl | simp)) (Sub.cons lookO Sub.nil))) (show Fit κ _ (vc 60 (.slice (ad8) (rs ++ ([⟨x3, Int.tmod ((x3 + 1) + x5) 7⟩] : List Pt)).length (cp9)) ((rs ++ ([⟨x3, Int.tmod ((x3 + 1) + x5) 7⟩] : List Pt))) :: blk b [lv, I64 ((i6))] 129 :: I) from Fit.sub)
 ·refine W.exit ?_
  refine V.then_exit ?_
  refine V.then_exit ?_
  refine V.block_hit ?_
  refine V.then ?_
  refine W.sr ?_
  refine G.r (Runs.move rfl) ?_
  refine G.r (Runs.assign rfl) ?_
  refine G.nt ?_
  refine W.ret ?_
  exact V.ret1 rfl rfl (vc 60 (.slice a rs.length c) (rs) :: blk b [lv, I64 (iq)] 129 :: I) Fit.s ⟨(a, c, rs, iq), ⟨⟨rfl, hall, by show (rs.length : Int) ≤ most; omega⟩, hiq⟩, rfl⟩

theorem Records_at {κ : Ctx} {I : List Item} {F : Item → List Item} {b : Nat} {lv : Value} {ls : List Int} {i : Int} {most : Int} (hat : AtF I (deck b lv i) F) (hl : ∀ q, Sl κ (F (deck b lv q)) lv ls) (h0 : 0 ≤ i)  (hm : 0 ≤ most ∧ most ≤ 1000) :
    CallS Try.prog κ 63 [.pointer (some ⟨b, 0, none⟩), I64 (most)] I fun r J => ∃ y : (Option Addr) × Nat × (List Pt) × Int, ((r = .slice y.1 y.2.2.1.length y.2.1 ∧ ((∀ p ∈ y.2.2.1, Rec p) ∧ (y.2.2.1.length : Int) ≤ most)) ∧ 0 ≤ y.2.2.2) ∧ J = [vc 60 (.slice y.1 y.2.2.1.length y.2.1) y.2.2.1] ++ F (deck b lv y.2.2.2) :=
  CallS.at (Post := fun r (y : (Option Addr) × Nat × (List Pt) × Int) => (r = .slice y.1 y.2.2.1.length y.2.1 ∧ ((∀ p ∈ y.2.2.1, Rec p) ∧ (y.2.2.1.length : Int) ≤ most)) ∧ 0 ≤ y.2.2.2) (Z := fun y : (Option Addr) × Nat × (List Pt) × Int => [vc 60 (.slice y.1 y.2.2.1.length y.2.1) y.2.2.1]) (X := fun y : (Option Addr) × Nat × (List Pt) × Int => deck b lv y.2.2.2) hat fun J _ hF => Records_base (fun q => (hl q).fit (hF _)) h0  hm

end Go.Sl
namespace Go.Sl
open Go.Proofs
set_option linter.unusedVariables false
set_option linter.unusedSimpArgs false
set_option maxRecDepth 4000
structure MadeRun (most n : Int) (l : List Pt) : Prop where
  ok : RunOk n l
  size : n ≤ 6
  len : l.length ≤ 1000
  node : ∀ p ∈ l, (p.u < most ∨ p.u < 7) ∧ (p.v < most ∨ p.v < 7)
theorem MadeRun.graph {nd most n : Int} {es : List Pt} (hG : GrOk nd es) (hn : nd ≤ most) (hl : es.length ≤ 400) (h : 1 ≤ n ∧ n ≤ 6) : MadeRun most n (both es) :=
  ⟨hG.both (by omega), h.2, by have := both_len es; omega, fun p hp => by have := hG.mem_both hp; omega⟩
theorem MadeRun.patch {most n : Int} {l add cut : List Pt} (h : MadeRun most n l) (hl : l.length + add.length ≤ 1000) (ha : ∀ p ∈ add, Rec p) : MadeRun most n (patchL l add cut) :=
  ⟨h.ok.patch fun p hp => (ha p hp).1, h.size, by have := patchL_len l add cut; omega, fun p hp => ((mem_patchL.1 hp).1).elim (h.node p) fun hp => by have := (ha p hp).2; omega⟩

theorem MRun_base {κ : Ctx} {I : List Item} {b : Nat} {lv : Value} {ls : List Int} {i : Int} {most : Int} (hl : ∀ q, Sl κ (deck b lv q :: I) lv ls) (h0 : 0 ≤ i)  (hm : 0 ≤ most ∧ most ≤ 20) :
    CallS Try.prog κ 44 [.pointer (some ⟨b, 0, none⟩), I64 (most)] (blk b [lv, I64 (i)] 129 :: I) (fun r J => ∃ y : Int × (Option Addr) × Nat × (List Pt) × Int, ((r = .agg #[I64 y.1, .slice y.2.1 y.2.2.2.1.length y.2.2.1] ∧ MadeRun most y.1 y.2.2.2.1) ∧ 0 ≤ y.2.2.2.2) ∧ J = [vc 60 (.slice y.2.1 y.2.2.2.1.length y.2.2.1) y.2.2.2.1] ++ deck b lv y.2.2.2.2 :: I) := by
 refine CallS.enter (L := [(0, .pointer (some ⟨b, 0, none⟩)), (1, I64 (most))]) Try.func44 rfl rfl rfl rfl ?_
 refine W.sr ?_
 refine G.e (Eff.alloc ty57 rfl) ?_
 rintro _ _ ⟨b1, rfl, rfl⟩
 refine G.nt ?_
 refine W.sr ?_
 refine G.r (Runs.move rfl) ?_
 refine G.r (Runs.move rfl) ?_
 refine G.e (Eff.call call69 rfl rfl (MkGraph_at (by repeat (first | exact AtF.head _ _ | apply AtF.tail)) (fun _ => Sl.fit (hl _) Fit.m) (by omega)  (by omega))) ?_
 rintro _ _ ⟨_, _, ⟨⟨nd2, ad3, cp4, es5, i6⟩, ⟨⟨rfl, hges5⟩, hi6⟩, rfl⟩, rfl, rfl⟩
 show G Try.prog κ _ _ _ _ ([(10, .agg #[I64 (nd2), .slice ad3 es5.length cp4]), (9, I64 (most)), (8, .pointer (some ⟨b, 0, none⟩)), (4, .pointer (some ⟨b1, 0, none⟩)), (0, .pointer (some ⟨b, 0, none⟩)), (1, I64 (most))] : Env) (vc 150 (.slice ad3 es5.length cp4) (es5) :: blk b1 [I64 (0), .slice none 0 0] 57 :: blk b [lv, I64 (i6)] 129 :: I)
 have hi6 : 0 ≤ i6 := hi6
 dsimp only at hges5
 refine G.r (Runs.move rfl) ?_
 refine G.e (Eff.call call25 rfl rfl (Next_ok (by repeat (first | exact AtF.head _ _ | apply AtF.tail)) (Sl.fit (hl _) Fit.m) (by omega) (by omega))) ?_
 rintro _ _ ⟨_, _, ⟨x7, i8, rfl, hx7, hi8, rfl⟩, rfl, rfl⟩
 show G Try.prog κ _ _ _ _ ([(12, I64 (x7)), (11, .pointer (some ⟨b, 0, none⟩)), (10, .agg #[I64 (nd2), .slice ad3 es5.length cp4]), (9, I64 (most)), (8, .pointer (some ⟨b, 0, none⟩)), (4, .pointer (some ⟨b1, 0, none⟩)), (0, .pointer (some ⟨b, 0, none⟩)), (1, I64 (most))] : Env) (vc 150 (.slice ad3 es5.length cp4) (es5) :: blk b1 [I64 (0), .slice none 0 0] 57 :: blk b [lv, I64 (i8)] 129 :: I)
 refine G.r (Runs.add rfl rfl (by unfold InR; omega)) ?_
 refine G.e (Eff.call call108 rfl rfl (Build34_ok Sl.o hges5.2.1 (sz := 1 + x7) (by omega) (by omega))) ?_
 rintro _ _ ⟨_, _, ⟨ad9, cp10, rfl, rfl⟩, rfl, rfl⟩
 refine G.r (Runs.move rfl) ?_
 refine G.r (Runs.extract rfl rfl) ?_
 refine G.r (Runs.extract rfl rfl) ?_
 refine G.e (Eff.alloc ty57 rfl) ?_
 rintro _ _ ⟨b11, rfl, rfl⟩
 refine G.e (Eff.st (cs := [_, _]) (vs := [_, _]) (cs' := [_, _]) ty57) ?_
 rintro _ _ ⟨rfl, rfl⟩
 refine G.r (Runs.assign rfl) ?_
 refine G.nt ?_
 refine W.sub (L' := [(5, _), (4, _), (0, _)]) (Sub.cons rfl (Sub.cons rfl (Sub.cons rfl Sub.nil))) ?_
 refine W.seq ?_
 refine W.sr ?_
 refine G.r (Runs.move rfl) ?_
 refine G.e (Eff.call call25 rfl rfl (Next_ok (by repeat (first | exact AtF.head _ _ | apply AtF.tail)) (Sl.fit (hl _) Fit.m) (by omega) (by omega))) ?_
 rintro _ _ ⟨_, _, ⟨x12, i13, rfl, hx12, hi13, rfl⟩, rfl, rfl⟩
 show G Try.prog κ _ _ _ _ ([(18, I64 (x12)), (17, .pointer (some ⟨b, 0, none⟩)), (5, .pointer (some ⟨b11, 0, none⟩)), (4, .pointer (some ⟨b1, 0, none⟩)), (0, .pointer (some ⟨b, 0, none⟩))] : Env) (blk b11 [I64 (1 + x7), .slice ad9 (both es5).length cp10] 57 :: vc 60 (.slice ad9 (both es5).length cp10) (both es5) :: vc 150 (.slice ad3 es5.length cp4) (es5) :: blk b1 [I64 (0), .slice none 0 0] 57 :: blk b [lv, I64 (i13)] 129 :: I)
 refine G.r (Runs.eql rfl rfl) ?_
 refine G.nt ?_
 refine W.ite rfl (fun c19 => ?_) (fun c19 => ?_)
 ·refine W.drawn mixed ?_
  refine A.hold (vc 60 (.slice ad9 (both es5).length cp10) (both es5) :: vc 150 (.slice ad3 es5.length cp4) (es5) :: blk b1 [I64 (0), .slice none 0 0] 57 :: I) 9 ?_
  refine D.r 1 rfl (Runs.move rfl) ?_ (hJ := Fit.sub)
  refine D.r 3 rfl (Runs.move rfl) ?_ (hJ := Fit.sub)
  refine D.step (rs := [0, 2]) (by kernel_rfl) rfl rfl (all2 ?_ (all1 ?_))
  ·refine Step.read rfl (Wanted.plain rfl) rfl rfl (Runs.lds (vs := [_, _]) ty57) Fit.sub ?_
   refine D.step (rs := [2]) (by kernel_rfl) rfl rfl (all1 ?_)
   refine Step.eff rfl (Wanted.plain rfl) (Eff.call call63 rfl rfl (Records_at (by repeat (first | exact AtF.head _ _ | apply AtF.tail)) (fun _ => Sl.fit (hl _) Fit.m) (by omega)  (by omega))) ?_
   rintro _ _ ⟨_, _, ⟨⟨ad14, cp15, rs16, i17⟩, ⟨⟨rfl, hrrs16⟩, hi17⟩, rfl⟩, rfl, rfl⟩
   refine ⟨Fit.sub, ?_⟩
   show D Try.prog κ _ _ _ _ _ _ _ ([(23, .slice ad14 rs16.length cp15), (21, .agg #[I64 (1 + x7), .slice ad9 (both es5).length cp10]), (24, .pointer (some ⟨b, 0, none⟩)), (22, .pointer (some ⟨b, 0, none⟩)), (19, .bool (decide (x12 = 4))), (18, I64 (x12)), (17, .pointer (some ⟨b, 0, none⟩)), (5, .pointer (some ⟨b11, 0, none⟩)), (4, .pointer (some ⟨b1, 0, none⟩)), (0, .pointer (some ⟨b, 0, none⟩))] : Env) (vc 60 (.slice ad14 rs16.length cp15) (rs16) :: blk b11 [I64 (1 + x7), .slice ad9 (both es5).length cp10] 57 :: vc 60 (.slice ad9 (both es5).length cp10) (both es5) :: vc 150 (.slice ad3 es5.length cp4) (es5) :: blk b1 [I64 (0), .slice none 0 0] 57 :: blk b [lv, I64 (i17)] 129 :: I)
   have hi17 : 0 ≤ i17 := hi17
   dsimp only at hrrs16
   refine D.step (rs := [4]) (by kernel_rfl) rfl rfl (all1 ?_)
   refine Step.eff rfl (Wanted.plain rfl) (Eff.call call63 rfl rfl (Records_at (by repeat (first | exact AtF.head _ _ | apply AtF.tail)) (fun _ => Sl.fit (hl _) Fit.m) (by omega)  (by omega))) ?_
   rintro _ _ ⟨_, _, ⟨⟨ad18, cp19, rs20, i21⟩, ⟨⟨rfl, hrrs20⟩, hi21⟩, rfl⟩, rfl, rfl⟩
   refine ⟨Fit.sub, ?_⟩
   show D Try.prog κ _ _ _ _ _ _ _ ([(25, .slice ad18 rs20.length cp19), (23, .slice ad14 rs16.length cp15), (21, .agg #[I64 (1 + x7), .slice ad9 (both es5).length cp10]), (24, .pointer (some ⟨b, 0, none⟩)), (22, .pointer (some ⟨b, 0, none⟩)), (19, .bool (decide (x12 = 4))), (18, I64 (x12)), (17, .pointer (some ⟨b, 0, none⟩)), (5, .pointer (some ⟨b11, 0, none⟩)), (4, .pointer (some ⟨b1, 0, none⟩)), (0, .pointer (some ⟨b, 0, none⟩))] : Env) (vc 60 (.slice ad18 rs20.length cp19) (rs20) :: vc 60 (.slice ad14 rs16.length cp15) (rs16) :: blk b11 [I64 (1 + x7), .slice ad9 (both es5).length cp10] 57 :: vc 60 (.slice ad9 (both es5).length cp10) (both es5) :: vc 150 (.slice ad3 es5.length cp4) (es5) :: blk b1 [I64 (0), .slice none 0 0] 57 :: blk b [lv, I64 (i21)] 129 :: I)
   have hi21 : 0 ≤ i21 := hi21
   dsimp only at hrrs20
   refine D.step (rs := [5]) (by kernel_rfl) rfl rfl (all1 ?_)
   refine Step.eff rfl (Wanted.plain rfl) (Eff.call call109 rfl rfl (Patch34_ok Sl.o Sl.o Sl.o (hges5.2.1.both (by omega)) (fun p hp => (hrrs16.1 p hp).1) (fun p hp => (hrrs20.1 p hp).1) (by have := both_len es5; omega))) ?_
   rintro _ _ ⟨_, _, ⟨ad22, cp23, rfl, rfl⟩, rfl, rfl⟩
   refine ⟨Fit.sub, ?_⟩
   refine D.r 6 rfl (Runs.move rfl) ?_ (hJ := Fit.sub)
   refine D.r 7 rfl (Runs.extract rfl rfl) ?_ (hJ := Fit.sub)
   refine D.step (rs := [8, 9]) (by kernel_rfl) rfl rfl (all2 ?_ (all1 ?_))
   ·refine Step.read rfl (Wanted.plain rfl) rfl rfl (Runs.extract rfl rfl) Fit.sub ?_
    refine D.stop (by kernel_rfl) ?_
    refine A.eff (i := 9) (by kernel_rfl) rfl (Wanted.plain rfl) (Eff.st (cs := [_, _]) (vs := [_, _]) (cs' := [_, _]) ty57) ?_
    rintro _ _ ⟨rfl, rfl⟩
    refine A.done (by kernel_rfl) ?_
    refine V.then ?_
    refine W.sub (L' := [(5, _), (4, _)]) (Sub.cons rfl (Sub.cons rfl Sub.nil)) ?_
    refine W.sr ?_
    refine G.r (Runs.lds (vs := [_, _]) ty57) ?_
    refine G.e (Eff.st (cs := [_, _]) (vs := [_, _]) (cs' := [_, _]) ty57) ?_
    rintro _ _ ⟨rfl, rfl⟩
    refine G.nt ?_
    refine W.ret ?_
    exact V.retc rfl ty57 rfl (by repeat (first | exact List.mem_cons_self | apply List.mem_cons_of_mem)) rfl (vc 60 (.slice ad22 (patchL (both es5) rs16 rs20).length cp23) (patchL (both es5) rs16 rs20) :: blk b [lv, I64 (i21)] 129 :: I) Fit.s ⟨(1 + x7, ad22, cp23, patchL (both es5) rs16 rs20, i21), ⟨⟨rfl, (MadeRun.graph hges5.2.1 hges5.1 hges5.2.2 (by omega)).patch (by have := both_len es5; have := hrrs16.2; omega) hrrs16.1⟩, by omega⟩, rfl⟩
   ·refine Step.eff rfl (Wanted.plain rfl) (Eff.st (cs := [_, _]) (vs := [_, _]) (cs' := [_, _]) ty57) ?_
    rintro _ _ ⟨rfl, rfl⟩
    refine ⟨Fit.sub, ?_⟩
    refine D.step (rs := [8]) (by kernel_rfl) rfl rfl (all1 ?_)
    refine Step.read rfl (Wanted.plain rfl) rfl rfl (Runs.extract rfl rfl) Fit.sub ?_
    refine D.done (by kernel_rfl) ?_
    refine V.then ?_
    refine W.sub (L' := [(5, _), (4, _)]) (Sub.cons rfl (Sub.cons rfl Sub.nil)) ?_
    refine W.sr ?_
    refine G.r (Runs.lds (vs := [_, _]) ty57) ?_
    refine G.e (Eff.st (cs := [_, _]) (vs := [_, _]) (cs' := [_, _]) ty57) ?_
    rintro _ _ ⟨rfl, rfl⟩
    refine G.nt ?_
    refine W.ret ?_
    exact V.retc rfl ty57 rfl (by repeat (first | exact List.mem_cons_self | apply List.mem_cons_of_mem)) rfl (vc 60 (.slice ad22 (patchL (both es5) rs16 rs20).length cp23) (patchL (both es5) rs16 rs20) :: blk b [lv, I64 (i21)] 129 :: I) Fit.s ⟨(1 + x7, ad22, cp23, patchL (both es5) rs16 rs20, i21), ⟨⟨rfl, (MadeRun.graph hges5.2.1 hges5.1 hges5.2.2 (by omega)).patch (by have := both_len es5; have := hrrs16.2; omega) hrrs16.1⟩, by omega⟩, rfl⟩
  ·refine Step.eff rfl (Wanted.plain rfl) (Eff.call call63 rfl rfl (Records_at (by repeat (first | exact AtF.head _ _ | apply AtF.tail)) (fun _ => Sl.fit (hl _) Fit.m) (by omega)  (by omega))) ?_
   rintro _ _ ⟨_, _, ⟨⟨ad24, cp25, rs26, i27⟩, ⟨⟨rfl, hrrs26⟩, hi27⟩, rfl⟩, rfl, rfl⟩
   refine ⟨Fit.sub, ?_⟩
   show D Try.prog κ _ _ _ _ _ _ _ ([(23, .slice ad24 rs26.length cp25), (24, .pointer (some ⟨b, 0, none⟩)), (22, .pointer (some ⟨b, 0, none⟩)), (19, .bool (decide (x12 = 4))), (18, I64 (x12)), (17, .pointer (some ⟨b, 0, none⟩)), (5, .pointer (some ⟨b11, 0, none⟩)), (4, .pointer (some ⟨b1, 0, none⟩)), (0, .pointer (some ⟨b, 0, none⟩))] : Env) (vc 60 (.slice ad24 rs26.length cp25) (rs26) :: blk b11 [I64 (1 + x7), .slice ad9 (both es5).length cp10] 57 :: vc 60 (.slice ad9 (both es5).length cp10) (both es5) :: vc 150 (.slice ad3 es5.length cp4) (es5) :: blk b1 [I64 (0), .slice none 0 0] 57 :: blk b [lv, I64 (i27)] 129 :: I)
   have hi27 : 0 ≤ i27 := hi27
   dsimp only at hrrs26
   refine D.step (rs := [0, 4]) (by kernel_rfl) rfl rfl (all2 ?_ (all1 ?_))
   ·refine Step.read rfl (Wanted.plain rfl) rfl rfl (Runs.lds (vs := [_, _]) ty57) Fit.sub ?_
    refine D.step (rs := [4]) (by kernel_rfl) rfl rfl (all1 ?_)
    refine Step.eff rfl (Wanted.plain rfl) (Eff.call call63 rfl rfl (Records_at (by repeat (first | exact AtF.head _ _ | apply AtF.tail)) (fun _ => Sl.fit (hl _) Fit.m) (by omega)  (by omega))) ?_
    rintro _ _ ⟨_, _, ⟨⟨ad28, cp29, rs30, i31⟩, ⟨⟨rfl, hrrs30⟩, hi31⟩, rfl⟩, rfl, rfl⟩
    refine ⟨Fit.sub, ?_⟩
    show D Try.prog κ _ _ _ _ _ _ _ ([(25, .slice ad28 rs30.length cp29), (21, .agg #[I64 (1 + x7), .slice ad9 (both es5).length cp10]), (23, .slice ad24 rs26.length cp25), (24, .pointer (some ⟨b, 0, none⟩)), (22, .pointer (some ⟨b, 0, none⟩)), (19, .bool (decide (x12 = 4))), (18, I64 (x12)), (17, .pointer (some ⟨b, 0, none⟩)), (5, .pointer (some ⟨b11, 0, none⟩)), (4, .pointer (some ⟨b1, 0, none⟩)), (0, .pointer (some ⟨b, 0, none⟩))] : Env) (vc 60 (.slice ad28 rs30.length cp29) (rs30) :: vc 60 (.slice ad24 rs26.length cp25) (rs26) :: blk b11 [I64 (1 + x7), .slice ad9 (both es5).length cp10] 57 :: vc 60 (.slice ad9 (both es5).length cp10) (both es5) :: vc 150 (.slice ad3 es5.length cp4) (es5) :: blk b1 [I64 (0), .slice none 0 0] 57 :: blk b [lv, I64 (i31)] 129 :: I)
    have hi31 : 0 ≤ i31 := hi31
    dsimp only at hrrs30
    refine D.step (rs := [5]) (by kernel_rfl) rfl rfl (all1 ?_)
    refine Step.eff rfl (Wanted.plain rfl) (Eff.call call109 rfl rfl (Patch34_ok Sl.o Sl.o Sl.o (hges5.2.1.both (by omega)) (fun p hp => (hrrs26.1 p hp).1) (fun p hp => (hrrs30.1 p hp).1) (by have := both_len es5; omega))) ?_
    rintro _ _ ⟨_, _, ⟨ad32, cp33, rfl, rfl⟩, rfl, rfl⟩
    refine ⟨Fit.sub, ?_⟩
    refine D.r 6 rfl (Runs.move rfl) ?_ (hJ := Fit.sub)
    refine D.r 7 rfl (Runs.extract rfl rfl) ?_ (hJ := Fit.sub)
    refine D.step (rs := [8, 9]) (by kernel_rfl) rfl rfl (all2 ?_ (all1 ?_))
    ·refine Step.read rfl (Wanted.plain rfl) rfl rfl (Runs.extract rfl rfl) Fit.sub ?_
     refine D.stop (by kernel_rfl) ?_
     refine A.eff (i := 9) (by kernel_rfl) rfl (Wanted.plain rfl) (Eff.st (cs := [_, _]) (vs := [_, _]) (cs' := [_, _]) ty57) ?_
     rintro _ _ ⟨rfl, rfl⟩
     refine A.done (by kernel_rfl) ?_
     refine V.then ?_
     refine W.sub (L' := [(5, _), (4, _)]) (Sub.cons rfl (Sub.cons rfl Sub.nil)) ?_
     refine W.sr ?_
     refine G.r (Runs.lds (vs := [_, _]) ty57) ?_
     refine G.e (Eff.st (cs := [_, _]) (vs := [_, _]) (cs' := [_, _]) ty57) ?_
     rintro _ _ ⟨rfl, rfl⟩
     refine G.nt ?_
     refine W.ret ?_
     exact V.retc rfl ty57 rfl (by repeat (first | exact List.mem_cons_self | apply List.mem_cons_of_mem)) rfl (vc 60 (.slice ad32 (patchL (both es5) rs26 rs30).length cp33) (patchL (both es5) rs26 rs30) :: blk b [lv, I64 (i31)] 129 :: I) Fit.s ⟨(1 + x7, ad32, cp33, patchL (both es5) rs26 rs30, i31), ⟨⟨rfl, (MadeRun.graph hges5.2.1 hges5.1 hges5.2.2 (by omega)).patch (by have := both_len es5; have := hrrs26.2; omega) hrrs26.1⟩, by omega⟩, rfl⟩
    ·refine Step.eff rfl (Wanted.plain rfl) (Eff.st (cs := [_, _]) (vs := [_, _]) (cs' := [_, _]) ty57) ?_
     rintro _ _ ⟨rfl, rfl⟩
     refine ⟨Fit.sub, ?_⟩
     refine D.step (rs := [8]) (by kernel_rfl) rfl rfl (all1 ?_)
     refine Step.read rfl (Wanted.plain rfl) rfl rfl (Runs.extract rfl rfl) Fit.sub ?_
     refine D.done (by kernel_rfl) ?_
     refine V.then ?_
     refine W.sub (L' := [(5, _), (4, _)]) (Sub.cons rfl (Sub.cons rfl Sub.nil)) ?_
     refine W.sr ?_
     refine G.r (Runs.lds (vs := [_, _]) ty57) ?_
     refine G.e (Eff.st (cs := [_, _]) (vs := [_, _]) (cs' := [_, _]) ty57) ?_
     rintro _ _ ⟨rfl, rfl⟩
     refine G.nt ?_
     refine W.ret ?_
     exact V.retc rfl ty57 rfl (by repeat (first | exact List.mem_cons_self | apply List.mem_cons_of_mem)) rfl (vc 60 (.slice ad32 (patchL (both es5) rs26 rs30).length cp33) (patchL (both es5) rs26 rs30) :: blk b [lv, I64 (i31)] 129 :: I) Fit.s ⟨(1 + x7, ad32, cp33, patchL (both es5) rs26 rs30, i31), ⟨⟨rfl, (MadeRun.graph hges5.2.1 hges5.1 hges5.2.2 (by omega)).patch (by have := both_len es5; have := hrrs26.2; omega) hrrs26.1⟩, by omega⟩, rfl⟩
   ·refine Step.eff rfl (Wanted.plain rfl) (Eff.call call63 rfl rfl (Records_at (by repeat (first | exact AtF.head _ _ | apply AtF.tail)) (fun _ => Sl.fit (hl _) Fit.m) (by omega)  (by omega))) ?_
    rintro _ _ ⟨_, _, ⟨⟨ad34, cp35, rs36, i37⟩, ⟨⟨rfl, hrrs36⟩, hi37⟩, rfl⟩, rfl, rfl⟩
    refine ⟨Fit.sub, ?_⟩
    show D Try.prog κ _ _ _ _ _ _ _ ([(25, .slice ad34 rs36.length cp35), (23, .slice ad24 rs26.length cp25), (24, .pointer (some ⟨b, 0, none⟩)), (22, .pointer (some ⟨b, 0, none⟩)), (19, .bool (decide (x12 = 4))), (18, I64 (x12)), (17, .pointer (some ⟨b, 0, none⟩)), (5, .pointer (some ⟨b11, 0, none⟩)), (4, .pointer (some ⟨b1, 0, none⟩)), (0, .pointer (some ⟨b, 0, none⟩))] : Env) (vc 60 (.slice ad34 rs36.length cp35) (rs36) :: vc 60 (.slice ad24 rs26.length cp25) (rs26) :: blk b11 [I64 (1 + x7), .slice ad9 (both es5).length cp10] 57 :: vc 60 (.slice ad9 (both es5).length cp10) (both es5) :: vc 150 (.slice ad3 es5.length cp4) (es5) :: blk b1 [I64 (0), .slice none 0 0] 57 :: blk b [lv, I64 (i37)] 129 :: I)
    have hi37 : 0 ≤ i37 := hi37
    dsimp only at hrrs36
    refine D.step (rs := [0]) (by kernel_rfl) rfl rfl (all1 ?_)
    refine Step.read rfl (Wanted.plain rfl) rfl rfl (Runs.lds (vs := [_, _]) ty57) Fit.sub ?_
    refine D.step (rs := [5]) (by kernel_rfl) rfl rfl (all1 ?_)
    refine Step.eff rfl (Wanted.plain rfl) (Eff.call call109 rfl rfl (Patch34_ok Sl.o Sl.o Sl.o (hges5.2.1.both (by omega)) (fun p hp => (hrrs26.1 p hp).1) (fun p hp => (hrrs36.1 p hp).1) (by have := both_len es5; omega))) ?_
    rintro _ _ ⟨_, _, ⟨ad38, cp39, rfl, rfl⟩, rfl, rfl⟩
    refine ⟨Fit.sub, ?_⟩
    refine D.r 6 rfl (Runs.move rfl) ?_ (hJ := Fit.sub)
    refine D.r 7 rfl (Runs.extract rfl rfl) ?_ (hJ := Fit.sub)
    refine D.step (rs := [8, 9]) (by kernel_rfl) rfl rfl (all2 ?_ (all1 ?_))
    ·refine Step.read rfl (Wanted.plain rfl) rfl rfl (Runs.extract rfl rfl) Fit.sub ?_
     refine D.stop (by kernel_rfl) ?_
     refine A.eff (i := 9) (by kernel_rfl) rfl (Wanted.plain rfl) (Eff.st (cs := [_, _]) (vs := [_, _]) (cs' := [_, _]) ty57) ?_
     rintro _ _ ⟨rfl, rfl⟩
     refine A.done (by kernel_rfl) ?_
     refine V.then ?_
     refine W.sub (L' := [(5, _), (4, _)]) (Sub.cons rfl (Sub.cons rfl Sub.nil)) ?_
     refine W.sr ?_
     refine G.r (Runs.lds (vs := [_, _]) ty57) ?_
     refine G.e (Eff.st (cs := [_, _]) (vs := [_, _]) (cs' := [_, _]) ty57) ?_
     rintro _ _ ⟨rfl, rfl⟩
     refine G.nt ?_
     refine W.ret ?_
     exact V.retc rfl ty57 rfl (by repeat (first | exact List.mem_cons_self | apply List.mem_cons_of_mem)) rfl (vc 60 (.slice ad38 (patchL (both es5) rs26 rs36).length cp39) (patchL (both es5) rs26 rs36) :: blk b [lv, I64 (i37)] 129 :: I) Fit.s ⟨(1 + x7, ad38, cp39, patchL (both es5) rs26 rs36, i37), ⟨⟨rfl, (MadeRun.graph hges5.2.1 hges5.1 hges5.2.2 (by omega)).patch (by have := both_len es5; have := hrrs26.2; omega) hrrs26.1⟩, by omega⟩, rfl⟩
    ·refine Step.eff rfl (Wanted.plain rfl) (Eff.st (cs := [_, _]) (vs := [_, _]) (cs' := [_, _]) ty57) ?_
     rintro _ _ ⟨rfl, rfl⟩
     refine ⟨Fit.sub, ?_⟩
     refine D.step (rs := [8]) (by kernel_rfl) rfl rfl (all1 ?_)
     refine Step.read rfl (Wanted.plain rfl) rfl rfl (Runs.extract rfl rfl) Fit.sub ?_
     refine D.done (by kernel_rfl) ?_
     refine V.then ?_
     refine W.sub (L' := [(5, _), (4, _)]) (Sub.cons rfl (Sub.cons rfl Sub.nil)) ?_
     refine W.sr ?_
     refine G.r (Runs.lds (vs := [_, _]) ty57) ?_
     refine G.e (Eff.st (cs := [_, _]) (vs := [_, _]) (cs' := [_, _]) ty57) ?_
     rintro _ _ ⟨rfl, rfl⟩
     refine G.nt ?_
     refine W.ret ?_
     exact V.retc rfl ty57 rfl (by repeat (first | exact List.mem_cons_self | apply List.mem_cons_of_mem)) rfl (vc 60 (.slice ad38 (patchL (both es5) rs26 rs36).length cp39) (patchL (both es5) rs26 rs36) :: blk b [lv, I64 (i37)] 129 :: I) Fit.s ⟨(1 + x7, ad38, cp39, patchL (both es5) rs26 rs36, i37), ⟨⟨rfl, (MadeRun.graph hges5.2.1 hges5.1 hges5.2.2 (by omega)).patch (by have := both_len es5; have := hrrs26.2; omega) hrrs26.1⟩, by omega⟩, rfl⟩
 ·refine W.skip ?_
  refine V.then ?_
  refine W.sr ?_
  refine G.r (Runs.lds (vs := [_, _]) ty57) ?_
  refine G.e (Eff.st (cs := [_, _]) (vs := [_, _]) (cs' := [_, _]) ty57) ?_
  rintro _ _ ⟨rfl, rfl⟩
  refine G.nt ?_
  refine W.ret ?_
  exact V.retc rfl ty57 rfl (by repeat (first | exact List.mem_cons_self | apply List.mem_cons_of_mem)) rfl (vc 60 (.slice ad9 (both es5).length cp10) (both es5) :: blk b [lv, I64 (i13)] 129 :: I) Fit.s ⟨(1 + x7, ad9, cp10, both es5, i13), ⟨⟨rfl, MadeRun.graph hges5.2.1 hges5.1 hges5.2.2 (by omega)⟩, by omega⟩, rfl⟩

theorem MRun_at {κ : Ctx} {I : List Item} {F : Item → List Item} {b : Nat} {lv : Value} {ls : List Int} {i : Int} {most : Int} (hat : AtF I (deck b lv i) F) (hl : ∀ q, Sl κ (F (deck b lv q)) lv ls) (h0 : 0 ≤ i)  (hm : 0 ≤ most ∧ most ≤ 20) :
    CallS Try.prog κ 44 [.pointer (some ⟨b, 0, none⟩), I64 (most)] I fun r J => ∃ y : Int × (Option Addr) × Nat × (List Pt) × Int, ((r = .agg #[I64 y.1, .slice y.2.1 y.2.2.2.1.length y.2.2.1] ∧ MadeRun most y.1 y.2.2.2.1) ∧ 0 ≤ y.2.2.2.2) ∧ J = [vc 60 (.slice y.2.1 y.2.2.2.1.length y.2.2.1) y.2.2.2.1] ++ F (deck b lv y.2.2.2.2) :=
  CallS.at (Post := fun r (y : Int × (Option Addr) × Nat × (List Pt) × Int) => (r = .agg #[I64 y.1, .slice y.2.1 y.2.2.2.1.length y.2.2.1] ∧ MadeRun most y.1 y.2.2.2.1) ∧ 0 ≤ y.2.2.2.2) (Z := fun y : Int × (Option Addr) × Nat × (List Pt) × Int => [vc 60 (.slice y.2.1 y.2.2.2.1.length y.2.2.1) y.2.2.2.1]) (X := fun y : Int × (Option Addr) × Nat × (List Pt) × Int => deck b lv y.2.2.2.2) hat fun J _ hF => MRun_base (fun q => (hl q).fit (hF _)) h0  hm

end Go.Sl
