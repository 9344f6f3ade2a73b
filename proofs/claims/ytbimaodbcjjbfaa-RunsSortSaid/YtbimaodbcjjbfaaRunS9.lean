/- A part of the proofs of statements of this seat: contracts of functions, and the plain laws that they lean on. No conditions. -/
import Derived.Test.YtbimaodbcjjbfaaRunsV4
import Derived.Test.YtbimaodbcjjbfaaRng9
import Derived.Test.YtbimaodbcjjbfaaRunsD5
namespace Go.Sl
open Go.Proofs
set_option linter.unusedVariables false
set_option linter.unusedSimpArgs false
set_option maxRecDepth 4000
/-- The k-th chunk, as the iterator hands it on. -/
def partV (a0 : Option Addr) (c0 n len k : Nat) : Value := .slice (adrop a0 c0 (k * n) (Enc.sz Pt)) (min n (len - k * n)) (min n (len - k * n))

theorem Chunk1_ok {κ : Ctx} {I : List Item} {b1 b2 l : Nat} {a0 : Option Addr} {c0 nn : Nat} {xs : List Pt} {σ : Type} {Kf : σ → List Item} {Pf : Nat → σ → Prop} {s0 : σ} (hn : 1 ≤ nn ∧ nn ≤ 65536) (h1 : ∀ k, BlkRd κ (Kf k) b1 [.slice a0 xs.length c0] 55) (h2 : ∀ k, BlkRd κ (Kf k) b2 [I64 ((nn : Nat) : Int)] 3) (hx : ∀ k, Sl κ (Kf k) (.slice a0 xs.length c0) xs) (hcap : xs.length ≤ c0) (hlen : xs.length ≤ 65536) (h0 : Fit κ I (Kf s0)) (hp0 : Pf 0 s0) (hy : ∀ (k : Nat) (s : σ), Pf k s → k * nn < xs.length → YieldS Try.prog κ l [partV a0 c0 nn xs.length k] (Kf s) (fun J => ∃ s, Pf (k + 1) s ∧ J = Kf s)) :
    CallS Try.prog κ 193 [(.func (.yield l) #[] #[]), .pointer (some ⟨b1, 0, none⟩), .pointer (some ⟨b2, 0, none⟩)] I (fun r J => r = .tuple #[] ∧ ∃ (k : Nat) (s : σ), (xs.length ≤ k * nn ∧ (k = 0 ∨ (k - 1) * nn < xs.length)) ∧ Pf k s ∧ J = Kf s) := by
 refine CallS.enter (L := [(0, (.func (.yield l) #[] #[])), (1, .pointer (some ⟨b1, 0, none⟩)), (2, .pointer (some ⟨b2, 0, none⟩))]) Try.func193 rfl rfl rfl rfl ?_
 refine W.sr ?_
 refine G.r (Runs.assign rfl) ?_
 refine G.nt ?_
 refine W.block ?_
 refine W.loop (σ := Nat × Nat × σ) (fun s => ([(0, (.func (.yield l) #[] #[])), (1, .pointer (some ⟨b1, 0, none⟩)), (2, .pointer (some ⟨b2, 0, none⟩)), (4, I64 (((s.2.1 : Nat) : Int)))] : Env)) (fun s => (Kf s.2.2)) (fun s => (Pf s.1 s.2.2) ∧ (s.2.1 = s.1 * nn) ∧ (s.1 = 0 ∨ (s.1 - 1) * nn < xs.length) ∧ (s.2.1 ≤ 131072)) (fun s => 131072 - s.2.1) (0, 0, s0) (show (Pf (0 : Nat) (s0 : σ)) ∧ ((0 : Nat) = (0 : Nat) * nn) ∧ ((0 : Nat) = 0 ∨ ((0 : Nat) - 1) * nn < xs.length) ∧ ((0 : Nat) ≤ 131072) from ⟨hp0, (Nat.zero_mul _).symm, (.inl rfl), (by omega)⟩) (Sub.cons rfl (Sub.cons rfl (Sub.cons rfl (Sub.cons lookO Sub.nil)))) (show Fit κ _ ((Kf (s0))) from h0) ?_
 rintro ⟨k, i, st_⟩ hp
 obtain ⟨hpf, hi, hk, hib⟩ : (Pf k st_) ∧ (i = k * nn) ∧ (k = 0 ∨ (k - 1) * nn < xs.length) ∧ (i ≤ 131072) := hp
 show W Try.prog κ 31 _ _ ([(0, (.func (.yield l) #[] #[])), (1, .pointer (some ⟨b1, 0, none⟩)), (2, .pointer (some ⟨b2, 0, none⟩)), (4, I64 (((i : Nat) : Int)))] : Env) ((Kf st_))
 have hdl : (List.drop i xs).length = xs.length - i := List.length_drop
 refine W.seq ?_
 refine W.sr ?_
 refine G.r (Runs.move rfl) ?_
 refine G.r (Runs.loadB ty55 rfl (BlkRd.fit (h1 _) Fit.m) rfl) ?_
 refine G.r (Runs.lens Try.underlying55 rfl) ?_
 refine G.r (Runs.lss rfl rfl) ?_
 refine G.nt ?_
 refine W.ite rfl (fun c9 => ?_) (fun c9 => ?_)
 ·refine W.skip ?_
  refine V.then ?_
  refine W.seq ?_
  refine W.block ?_
  refine W.seq ?_
  refine W.drawn mixed ?_
  refine A.hold ((Kf st_)) 7 ?_
  refine D.r 0 rfl (Runs.loadB ty3 rfl (BlkRd.fit (h2 _) Fit.m) rfl) ?_
  refine D.r 1 rfl (Runs.loadB ty55 rfl (BlkRd.fit (h1 _) Fit.m) rfl) ?_
  refine D.r 2 rfl (Runs.move rfl) ?_
  refine D.r 3 rfl (Runs.lo (α := Pt) (xs := xs) (l := i) Try.underlying55 ty60 rfl rfl (by omega) (Sl.fit (hx _) Fit.m) (by omega)) ?_
  refine D.r 4 rfl (Runs.lens Try.underlying55 rfl) ?_
  refine D.r 5 rfl (Runs.min rfl rfl) ?_
  refine D.r 6 rfl (Runs.assign rfl) ?_
  refine D.done (by kernel_rfl) ?_
  refine V.then ?_
  refine W.sub (L' := [(5, _), (0, _), (1, _), (2, _), (4, _)]) (Sub.cons rfl (Sub.cons rfl (Sub.cons rfl (Sub.cons rfl (Sub.cons rfl Sub.nil))))) ?_
  refine W.seq ?_
  refine W.regionI ?_
  refine GY.read (Wanted.plain rfl) rfl rfl (Runs.move rfl) ?_
  refine GY.read (Wanted.plain rfl) rfl rfl (Runs.loadB ty55 rfl (BlkRd.fit (h1 _) Fit.m) rfl) ?_
  refine GY.read (Wanted.plain rfl) rfl rfl (Runs.move rfl) ?_
  refine GY.read (Wanted.plain rfl) rfl rfl (Runs.move rfl) ?_
  refine GY.read (Wanted.plain rfl) rfl rfl (Runs.move rfl) ?_
  refine GY.read (Wanted.plain rfl) rfl rfl (Runs.add rfl rfl (by unfold InR; omega)) ?_
  refine GY.read (Wanted.plain rfl) rfl rfl (Runs.move rfl) ?_
  refine GY.read (Wanted.plain rfl) rfl rfl (Runs.move rfl) ?_
  refine GY.read (Wanted.plain rfl) rfl rfl (Runs.add rfl rfl (by unfold InR; omega)) ?_
  refine GY.read (Wanted.plain rfl) rfl rfl (Runs.lohi3r (l := i) (e := (min nn (xs.length - i))) Try.underlying55 ty60 rfl rfl rfl rfl rfl (by split <;> omega) (by omega) (by omega)) ?_
  refine GY.yield (l := l) (Wanted.plain rfl) rfl rfl rfl (show YieldS Try.prog κ l [.slice (adrop a0 c0 i (Enc.sz Pt)) (min nn (xs.length - i)) (min nn (xs.length - i))] (Kf st_) (fun J => ∃ s, Pf (k + 1) s ∧ J = Kf s) from by rw [hi]; exact hy k st_ hpf (by omega)) ?_
  rintro _ ⟨s2_, hp2, rfl⟩
  refine GY.read (Wanted.plain rfl) rfl rfl (Runs.not rfl) ?_
  refine GY.nil ?_
  refine V.then ?_
  refine W.sub (L' := [(30, _), (0, _), (1, _), (2, _), (4, _)]) (Sub.cons rfl (Sub.cons rfl (Sub.cons rfl (Sub.cons rfl (Sub.cons rfl Sub.nil))))) ?_
  refine W.no rfl ?_
  refine W.skip ?_
  refine V.block_normal ?_
  refine V.then ?_
  refine W.region ?_
  refine G.r (Runs.move rfl) ?_
  refine G.r (Runs.loadB ty3 rfl (BlkRd.fit (h2 _) Fit.m) rfl) ?_
  refine G.r (Runs.add rfl rfl (by unfold InR; omega)) ?_
  refine G.r (Runs.assign rfl) ?_
  refine G.nil ?_
  exact V.next ((k + 1), (i + nn), (s2_)) (show (Pf (k + 1 : Nat) (s2_ : σ)) ∧ ((i + nn : Nat) = (k + 1 : Nat) * nn) ∧ ((k + 1 : Nat) = 0 ∨ ((k + 1 : Nat) - 1) * nn < xs.length) ∧ ((i + nn : Nat) ≤ 131072) from ⟨hp2, (by rw [Nat.succ_mul, ← hi]), (.inr (by rw [Nat.add_sub_cancel, ← hi]; omega)), (by omega)⟩) (show 131072 - (i + nn : Nat) < 131072 - i from (by omega)) (Sub.cons rfl (Sub.cons rfl (Sub.cons rfl (Sub.cons lookO Sub.nil)))) (show Fit κ _ ((Kf (s2_))) from (Fit.refl _))
 ·refine W.exit ?_
  refine V.then_exit ?_
  refine V.then_exit ?_
  refine V.block_hit ?_
  exact V.end0 rfl ((Kf st_)) (Fit.refl _) ⟨rfl, k, st_, ⟨by rw [← hi]; omega, hk⟩, hpf, rfl⟩

theorem Chunk_ok {κ : Ctx} {I : List Item} {a0 : Option Addr} {n0 c0 nn : Nat} (hn : 1 ≤ nn) :
    CallS Try.prog κ 128 [.slice a0 n0 c0, I64 (((nn : Nat) : Int))] I (fun r J => ∃ b1 b2, r = .func (.func 193) #[] #[.pointer (some ⟨b1, 0, none⟩), .pointer (some ⟨b2, 0, none⟩)] ∧ J = blk b2 [I64 ((nn : Nat) : Int)] 3 :: blk b1 [.slice a0 n0 c0] 55 :: I) := by
 refine CallS.enter (L := [(0, .slice a0 n0 c0), (1, I64 (((nn : Nat) : Int)))]) Try.func128 rfl rfl rfl rfl ?_
 refine W.sr ?_
 refine G.e (Eff.box (cs := [_]) rfl rfl rfl) ?_
 rintro _ _ ⟨b1, rfl, rfl⟩
 refine G.e (Eff.box (cs := [_]) rfl rfl rfl) ?_
 rintro _ _ ⟨b2, rfl, rfl⟩
 refine G.r (Runs.assign rfl) ?_
 refine G.nt ?_
 refine W.seq ?_
 refine W.sr ?_
 refine G.r (Runs.ld ty3) ?_
 refine G.r (Runs.lss rfl rfl) ?_
 refine G.nt ?_
 refine W.ite rfl (fun c6 => ?_) (fun c6 => ?_)
 ·exact absurd c6 (by omega)
 ·refine W.skip ?_
  refine V.then ?_
  refine W.sr ?_
  refine G.r (Runs.makeFunc rfl rfl) ?_
  refine G.r (Runs.assign rfl) ?_
  refine G.nt ?_
  refine W.ret ?_
  exact V.ret1 rfl rfl (blk b2 [I64 (((nn : Nat) : Int))] 3 :: blk b1 [.slice a0 n0 c0] 55 :: I) (Fit.refl _) ⟨b1, b2, rfl, rfl⟩

end Go.Sl
namespace Go.Sl
open Go.Proofs
set_option linter.unusedVariables false
set_option linter.unusedSimpArgs false
set_option maxRecDepth 4000
theorem perm_run {A I : List Item} {rs : List RunV} {r : RunV} : ((vc 60 (.slice r.a r.xs.length r.c) r.xs) :: (A ++ (runsI rs ++ I))).Perm (A ++ (runsI (rs ++ [r]) ++ I)) := by
  have e : runsI (rs ++ [r]) = runsI rs ++ [vc 60 (.slice r.a r.xs.length r.c) r.xs] := by unfold runsI; rw [List.map_append]; rfl
  rw [e, List.append_assoc, ← List.append_assoc A, ← List.append_assoc A]
  exact List.perm_middle.symm
theorem part_len (xs : List Pt) (nn k : Nat) : ((xs.drop (k * nn)).take (min nn (xs.length - k * nn))).length = min nn (xs.length - k * nn) := by
  rw [List.length_take, List.length_drop]; omega
/-- What the runs hold when k chunks have come. -/
structure Sorted1 (xs : List Pt) (sz : Int) (nn k : Nat) (rs : List RunV) : Prop where
  num : rs.length = k
  size : ∀ r ∈ rs, r.n = sz
  mem : ∀ p, p ∈ (rs.map RunV.xs).flatten ↔ p ∈ xs.take (k * nn)
  asc : ∀ r ∈ rs, r.xs.Pairwise Pt.lt
  len : (rs.map RunV.xs).flatten.length ≤ k * nn ∧ (rs.map RunV.xs).flatten.length ≤ xs.length
theorem Sorted1.zero {xs : List Pt} {sz : Int} {nn : Nat} : Sorted1 xs sz nn 0 [] := ⟨rfl, (fun r h => by cases h), (fun p => by simp), (fun r h => by cases h), by simp⟩
theorem Sorted1.snoc {xs : List Pt} {sz : Int} {nn k : Nat} {rs : List RunV} {a : Option Addr} {c : Nat} (h : Sorted1 xs sz nn k rs) (hk : k * nn < xs.length) : Sorted1 xs sz nn (k + 1) (rs ++ [⟨sz, a, c, sortB Pt.lt ((xs.drop (k * nn)).take (min nn (xs.length - k * nn)))⟩]) := by
  have e : xs.take ((k + 1) * nn) = xs.take (k * nn) ++ (xs.drop (k * nn)).take (min nn (xs.length - k * nn)) := by
    rw [Nat.succ_mul, List.take_add]
    congr 1
    by_cases hm : nn ≤ xs.length - k * nn
    · rw [Nat.min_eq_left hm]
    · rw [Nat.min_eq_right (by omega), List.take_of_length_le (by rw [List.length_drop]; omega), List.take_of_length_le (by rw [List.length_drop]; omega)]
  have hsl := sortB_len (lt := Pt.lt) ((xs.drop (k * nn)).take (min nn (xs.length - k * nn)))
  rw [part_len] at hsl
  refine ⟨by rw [List.length_append, h.num]; rfl, fun r hr => ?_, fun p => ?_, fun r hr => ?_, ?_⟩
  · rcases List.mem_append.1 hr with hr | hr
    · exact h.size r hr
    · rw [List.mem_singleton] at hr; rw [hr]
  · rw [List.map_append, List.flatten_append, List.mem_append, h.mem, e, List.mem_append]
    simp only [List.map_cons, List.map_nil, List.flatten_cons, List.flatten_nil, List.append_nil, mem_sortB]
  · rcases List.mem_append.1 hr with hr | hr
    · exact h.asc r hr
    · rw [List.mem_singleton] at hr; rw [hr]; exact Pt.lin.sortB _
  · rw [List.map_append, List.flatten_append, List.length_append, Nat.succ_mul]
    simp only [List.map_cons, List.map_nil, List.flatten_cons, List.flatten_nil, List.append_nil]
    have h1 := h.len
    refine ⟨by omega, ?_⟩
    have := List.length_take_le' (k * nn) xs
    omega

theorem Sort1_ok {κ : Ctx} {I : List Item} (x : Pt) :
    CallS Try.prog κ 126 [.agg #[I64 (x.u), I64 (x.v)]] I (fun r J => r = .bool (!decide x.right) ∧ I = J) := by
 refine CallS.enter (L := [(0, .agg #[I64 (x.u), I64 (x.v)])]) Try.func126 rfl rfl rfl rfl ?_
 refine W.sr ?_
 refine G.e (Eff.box (cs := [_, _]) rfl rfl rfl) ?_
 rintro _ _ ⟨b1, rfl, rfl⟩
 refine G.r (Runs.assign rfl) ?_
 refine G.nt ?_
 refine W.sr ?_
 refine G.r (Runs.lds (vs := [_, _]) ty60) ?_
 refine G.e (Eff.call call127 rfl rfl (Record_ok x)) ?_
 rintro _ _ ⟨_, _, ⟨rfl, rfl⟩, rfl, rfl⟩
 refine G.r (Runs.notd rfl) ?_
 refine G.r (Runs.assign rfl) ?_
 refine G.nt ?_
 refine W.ret ?_
 exact V.ret1 rfl rfl (I) Fit.m ⟨by rw [decide_not], rfl⟩

theorem CloneR {κ : Ctx} {I : List Item} {a : Option Addr} {c : Nat} {xs : List RunV} (hl : Sl κ I (.slice a xs.length c) xs) (hb : xs.length ≤ 1000000000) :
    CallS Try.prog κ 129 [.slice a xs.length c] I (fun r J => ∃ a' c', r = .slice a' xs.length c' ∧ J = vc 57 (.slice a' xs.length c') xs :: I) := by
 refine CallS.pull (p := a.isNone = true → xs = [] ∧ c = 0) (fun w hs hn => hl.isNone w hs hn) fun hnone => ?_
 refine CallS.enter (L := [(0, .slice a xs.length c)]) Try.func129 rfl rfl rfl rfl ?_
 refine W.sr ?_
 refine G.r (Runs.assign rfl) ?_
 refine G.nt ?_
 refine W.seq ?_
 refine W.sr ?_
 refine G.r (Runs.move rfl) ?_
 refine G.r (Runs.eqnil Try.underlying65 rfl rfl) ?_
 refine G.nt ?_
 refine W.cond rfl (fun c4 => ?_) (fun c4 => ?_)
 ·refine W.sr ?_
  refine G.r (Runs.assign rfl) ?_
  refine G.nt ?_
  refine W.ret ?_
  refine V.then_ret ?_
  obtain ⟨hx0, _⟩ := hnone c4
  subst hx0
  exact V.ret1 rfl rfl (vc 57 (.slice none ([] : List RunV).length 0) ([] : List RunV) :: I) (Fit.nilvc _ _) ⟨none, 0, rfl, rfl⟩
 ·refine W.skip ?_
  refine V.then ?_
  refine W.sr ?_
  refine G.e (Eff.bs0 (α := RunV) Try.underlying65 ty57 rfl) ?_
  rintro _ _ ⟨ad1, rfl, rfl⟩
  refine G.r (Runs.move rfl) ?_
  refine G.e (Eff.app (α := RunV) (e := 57) (xs := ([] : List RunV)) (ys := xs) Try.underlying65 ty57 rfl rfl rfl (by repeat (first | exact List.mem_cons_self | apply List.mem_cons_of_mem)) (Sl.f hl) (by simp only [List.length_nil]; omega) (by decide) rfl (fun _ _ => (by repeat (first | exact At.head _ _ _ | apply At.tail)))) ?_
  rintro _ _ ⟨ad2, cp3, rfl, rfl⟩
  refine G.r (Runs.assign rfl) ?_
  refine G.nt ?_
  refine W.ret ?_
  exact V.ret1 rfl rfl (vc 57 (.slice ad2 xs.length cp3) xs :: I) Fit.sub ⟨ad2, cp3, rfl, rfl⟩

/-- The runs while they are merged. -/
structure Mrg (xs : List Pt) (sz : Int) (rs : List RunV) : Prop where
  mem : ∀ p, p ∈ (rs.map RunV.xs).flatten ↔ p ∈ xs
  size : ∀ r ∈ rs, r.n = sz
  asc : ∀ r ∈ rs, r.xs.Pairwise Pt.lt
  len : (rs.map RunV.xs).flatten.length ≤ xs.length
theorem Sorted1.mrg {xs : List Pt} {sz : Int} {nn k : Nat} {rs : List RunV} (h : Sorted1 xs sz nn k rs) (hk : xs.length ≤ k * nn) : Mrg xs sz rs := ⟨fun p => by rw [h.mem, List.take_of_length_le hk], h.size, h.asc, h.len.2⟩
theorem Mrg.merge {xs : List Pt} {sz : Int} {rs : List RunV} {a : Option Addr} {c : Nat} (h : Mrg xs sz rs) (n : Nat) : Mrg xs sz (rs.drop n ++ [⟨sz, a, c, sortB Pt.lt ((rs.take n).map RunV.xs).flatten⟩]) := by
  have e : (rs.map RunV.xs).flatten = ((rs.take n).map RunV.xs).flatten ++ ((rs.drop n).map RunV.xs).flatten := by
    rw [← List.flatten_append, ← List.map_append, List.take_append_drop]
  have hsl := sortB_len (lt := Pt.lt) ((rs.take n).map RunV.xs).flatten
  refine ⟨fun p => ?_, fun r hr => ?_, fun r hr => ?_, ?_⟩
  · rw [← h.mem p, e, List.map_append, List.flatten_append, List.mem_append, List.mem_append]
    simp only [List.map_cons, List.map_nil, List.flatten_cons, List.flatten_nil, List.append_nil, mem_sortB]
    exact Or.comm
  · rcases List.mem_append.1 hr with hr | hr
    · exact h.size r (List.mem_of_mem_drop hr)
    · rw [List.mem_singleton] at hr; rw [hr]
  · rcases List.mem_append.1 hr with hr | hr
    · exact h.asc r (List.mem_of_mem_drop hr)
    · rw [List.mem_singleton] at hr; rw [hr]; exact Pt.lin.sortB _
  · have hl := h.len
    rw [e, List.length_append] at hl
    rw [List.map_append, List.flatten_append, List.length_append]
    simp only [List.map_cons, List.map_nil, List.flatten_cons, List.flatten_nil, List.append_nil]
    omega
theorem Mrg.one {xs : List Pt} {sz : Int} {rs : List RunV} (h : Mrg xs sz rs) (hl : rs.length = 1) : (at_ rs 0).n = sz ∧ (at_ rs 0).xs = sortB Pt.lt xs := by
  cases rs with
  | nil => cases hl
  | cons r rs =>
    cases rs with
    | cons _ _ => simp at hl
    | nil =>
      refine ⟨h.size r List.mem_cons_self, Pt.lin.uniq (h.asc r List.mem_cons_self) (Pt.lin.sortB _) fun p => ?_⟩
      rw [mem_sortB, ← h.mem p]; simp; rfl
theorem Mrg.none {xs : List Pt} {sz : Int} {rs : List RunV} (h : Mrg xs sz rs) (hl : rs.length = 0) : sortB Pt.lt xs = [] := by
  rw [List.eq_nil_of_length_eq_zero hl] at h
  refine List.eq_nil_iff_forall_not_mem.2 fun p hp => ?_
  have := (h.mem p).2 ((mem_sortB _ _).1 hp)
  simp at this
theorem Mrg.fit1 {κ : Ctx} {I : List Item} {xs : List Pt} {sz : Int} {rs : List RunV} (h : Mrg xs sz rs) (hl : rs.length = 1) : Fit κ (runsI rs ++ I) (vc 60 (.slice (at_ rs 0).a (sortB Pt.lt xs).length (at_ rs 0).c) (sortB Pt.lt xs) :: I) := by
  rw [← (h.one hl).2]
  cases rs with
  | nil => cases hl
  | cons r rs =>
    cases rs with
    | cons _ _ => simp at hl
    | nil => exact Fit.refl _
theorem Mrg.take {xs : List Pt} {sz : Int} {rs : List RunV} (h : Mrg xs sz rs) (hsz : 1 ≤ sz ∧ sz ≤ 1024) (n : Nat) : ((rs.take n).map RunV.xs).flatten.length ≤ xs.length ∧ readsL (rs.take n) ≤ xs.length := by
  have e : (rs.map RunV.xs).flatten = ((rs.take n).map RunV.xs).flatten ++ ((rs.drop n).map RunV.xs).flatten := by
    rw [← List.flatten_append, ← List.map_append, List.take_append_drop]
  have hl := h.len
  rw [e, List.length_append] at hl
  have h2 := readsL_le (rs := rs.take n) fun r hr => by have := h.size r (List.mem_of_mem_take hr); omega
  omega
theorem runsI_drop {κ : Ctx} {A I : List Item} {rs : List RunV} {n : Nat} : Fit κ (A ++ (runsI rs ++ I)) (A ++ (runsI (rs.drop n) ++ I)) := by
  refine Fit.of_sublist (List.Sublist.append (List.Sublist.refl _) (List.Sublist.append ?_ (List.Sublist.refl _)))
  unfold runsI
  exact (List.drop_sublist n rs).map _

theorem Sort1_says {κ : Ctx} {I : List Item} : Says Try.prog κ I 126 [] (fun x : Pt => !decide x.right) := ⟨call126, fun x J hf => Sort1_ok x⟩

set_option maxHeartbeats 2000000 in
theorem Sort_ok {κ : Ctx} {I : List Item} {a0 : Option Addr} {c0 : Nat} {xs : List Pt} {sz me : Nat} (hl : Sl κ I (.slice a0 xs.length c0) xs) (hsz : 1 ≤ sz ∧ sz ≤ 1024) (hme : 3 ≤ me ∧ me ≤ 64) (hr : ∀ p ∈ xs, p.right) (hb : xs.length ≤ 1000) :
    CallS Try.prog κ 64 [.slice a0 xs.length c0, I64 (((sz : Nat) : Int)), I64 (((me : Nat) : Int))] I (fun r J => ∃ a c n, r = .tuple #[.agg #[I64 ((sz : Nat) : Int), .slice a (sortB Pt.lt xs).length c], I64 n, I64 0] ∧ ((xs.length ≤ sz * me → n = 0) ∧ 0 ≤ n) ∧ J = vc 60 (.slice a (sortB Pt.lt xs).length c) (sortB Pt.lt xs) :: I) := by
 refine CallS.pull (p := xs.length ≤ c0) (fun w s => by obtain ⟨_, _, he, _, h2, _⟩ := hl w s; cases he; omega) fun hcap => ?_
 have hnn : 1 ≤ sz * me ∧ sz * me ≤ 65536 := ⟨Nat.mul_pos (by omega) (by omega), Nat.le_trans (Nat.mul_le_mul hsz.2 hme.2) (by decide)⟩
 refine CallS.enterM (L := [(0, .slice a0 xs.length c0), (1, I64 (((sz : Nat) : Int))), (2, I64 (((me : Nat) : Int)))]) Try.func64 rfl rfl rfl rfl ?_
 refine W.sr ?_
 refine G.e (Eff.box (cs := [_]) rfl rfl rfl) ?_
 rintro _ _ ⟨b1, rfl, rfl⟩
 refine G.e (Eff.alloc ty57 rfl) ?_
 rintro _ _ ⟨b2, rfl, rfl⟩
 refine G.r (Runs.assign rfl) ?_
 refine G.r (Runs.assign rfl) ?_
 refine G.nt ?_
 refine W.seq ?_
 refine W.block ?_
 refine W.sr ?_
 refine G.r (Runs.ld ty3) ?_
 refine G.e (Eff.call call113 rfl rfl (BlockSz_ok ((sz : Nat) : Int))) ?_
 rintro _ _ ⟨_, _, ⟨rfl, rfl⟩, rfl, rfl⟩
 refine G.r (Runs.notd rfl) ?_
 refine G.r (Runs.move rfl) ?_
 refine G.split (d := 21) rfl (fun g21 => ?_) (fun g21 => ?_)
 ·exact (g21 (by omega)).elim
 ·refine G.ro (Runs.move rfl) ?_
  refine G.ro (Runs.lss rfl rfl) ?_
  refine G.r (Runs.pickf rfl rfl) ?_
  refine G.r (Runs.move rfl) ?_
  refine G.split (d := 25) rfl (fun g25 => ?_) (fun g25 => ?_)
  ·exact absurd g25 (by omega)
  ·refine G.ro (Runs.move rfl) ?_
   refine G.ro (Runs.gtr rfl rfl) ?_
   refine G.r (Runs.pickf rfl rfl) ?_
   refine G.r (Runs.assign rfl) ?_
   refine G.nt ?_
   refine W.sub (L' := [(17, _), (6, _), (4, _), (0, _), (2, _)]) (Sub.cons rfl (Sub.cons rfl (Sub.cons rfl (Sub.cons rfl (Sub.cons rfl Sub.nil))))) ?_
   refine W.ite rfl (fun c17 => ?_) (fun c17 => ?_)
   ·exact absurd c17 (by omega)
   ·refine W.sr ?_
    refine G.r (Runs.move rfl) ?_
    refine G.r (Runs.lens Try.underlying55 rfl) ?_
    refine G.r (Runs.gtr rfl rfl) ?_
    refine G.r (Runs.assign rfl) ?_
    refine G.nt ?_
    refine W.ite rfl (fun c30 => ?_) (fun c30 => ?_)
    ·omega
    ·refine W.sr ?_
     refine G.r (Runs.move rfl) ?_
     refine G.e (Eff.call call125 rfl rfl (ContainsFuncP (Sl.f hl) Sort1_says)) ?_
     rintro _ _ ⟨_, _, ⟨rfl, rfl⟩, rfl, rfl⟩
     refine G.r (Runs.assign rfl) ?_
     refine G.nt ?_
     refine W.cond rfl (fun c35 => ?_) (fun c35 => ?_)
     ·exact (any_not_right hr c35).elim
     ·refine W.skip ?_
      refine V.block_normal ?_
      refine V.then ?_
      refine W.sr ?_
      refine G.e (Eff.alloc ty65 rfl) ?_
      rintro _ _ ⟨b3, rfl, rfl⟩
      refine G.nt ?_
      refine W.seq ?_
      refine W.sr ?_
      refine G.r (Runs.move rfl) ?_
      refine G.r (Runs.ld ty3) ?_
      refine G.r (Runs.move rfl) ?_
      refine G.r (Runs.mul rfl rfl (by unfold InR; omega)) ?_
      have hmul : ((sz : Nat) : Int) * ((me : Nat) : Int) = ((sz * me : Nat) : Int) := (Int.natCast_mul _ _).symm
      rw [hmul]
      refine G.e (Eff.call call128 rfl rfl (Chunk_ok (nn := (sz * me)) (by omega))) ?_
      rintro _ _ ⟨_, _, ⟨b4, b5, rfl, rfl⟩, rfl, rfl⟩
      refine G.nt ?_
      refine W.sub (L' := [(43, _), (9, _), (6, _), (4, _), (2, _)]) (Sub.cons rfl (Sub.cons rfl (Sub.cons rfl (Sub.cons rfl (Sub.cons rfl Sub.nil))))) ?_
      refine W.block ?_
      refine W.rangeFn (gf := 193) (lb := [.pointer (some ⟨b4, 0, none⟩), .pointer (some ⟨b5, 0, none⟩)]) rfl call193 fun Dm l rc hr1 hr2 hr3 hr4 hta => ?_
      refine (Chunk1_ok (σ := (Option Addr) × Nat × (List RunV)) (l := l) (Kf := fun s => recI l rc :: dfrI Dm :: vc 57 (.slice s.1 s.2.2.length s.2.1) (s.2.2) :: blk b5 [I64 ((((sz * me) : Nat) : Int))] 3 :: blk b4 [.slice a0 xs.length c0] 55 :: blk b3 [.slice s.1 s.2.2.length s.2.1] 65 :: blk b2 [I64 (0), .slice none 0 0] 57 :: blk b1 [I64 (((sz : Nat) : Int))] 3 :: (runsI s.2.2 ++ I)) (Pf := fun kk s => (Sorted1 xs ((sz : Nat) : Int) (sz * me) kk s.2.2)) (s0 := (none, 0, [])) hnn (fun s => BlkRd.of (by repeat (first | exact List.mem_cons_self | apply List.mem_cons_of_mem))) (fun s => BlkRd.of (by repeat (first | exact List.mem_cons_self | apply List.mem_cons_of_mem))) (fun s => Sl.fit hl Fit.m) hcap (by omega) (Fit.trans (Fit.nilvc (α := RunV) _ _) Fit.s) Sorted1.zero ?_).mono ?_
      ·rintro kk ⟨a, c, rs⟩ hp hlt
       have hS : (Sorted1 xs ((sz : Nat) : Int) (sz * me) kk rs) := hp
       dsimp only at hlt ⊢
       rw [show partV a0 c0 (sz * me) xs.length kk = .slice (adrop a0 c0 (kk * (sz * me)) (Enc.sz Pt)) ((xs.drop (kk * (sz * me))).take (min (sz * me) (xs.length - kk * (sz * me)))).length (min (sz * me) (xs.length - kk * (sz * me))) from by unfold partV; rw [part_len]]
       refine YieldS.mk (L₁ := [(10, .slice (adrop a0 c0 (kk * (sz * me)) (Enc.sz Pt)) ((xs.drop (kk * (sz * me))).take (min (sz * me) (xs.length - kk * (sz * me)))).length (min (sz * me) (xs.length - kk * (sz * me)))), (44, .slice (adrop a0 c0 (kk * (sz * me)) (Enc.sz Pt)) ((xs.drop (kk * (sz * me))).take (min (sz * me) (xs.length - kk * (sz * me)))).length (min (sz * me) (xs.length - kk * (sz * me)))), (43, .func (.func 193) #[] #[.pointer (some ⟨b4, 0, none⟩), .pointer (some ⟨b5, 0, none⟩)]), (9, .pointer (some ⟨b3, 0, none⟩)), (6, .pointer (some ⟨b2, 0, none⟩)), (4, .pointer (some ⟨b1, 0, none⟩)), (2, I64 (((me : Nat) : Int)))]) (by rw [hr2]; rfl) hr1 hr4 (fun w K hK => by rw [hr3, hr2, fold_one]; exact assign_one hta rfl rfl w K hK) ?_
       have hpart : Sl κ I (.slice (adrop a0 c0 (kk * (sz * me)) (Enc.sz Pt)) ((xs.drop (kk * (sz * me))).take (min (sz * me) (xs.length - kk * (sz * me)))).length (min (sz * me) (xs.length - kk * (sz * me)))) ((xs.drop (kk * (sz * me))).take (min (sz * me) (xs.length - kk * (sz * me)))) := Sl.take3 (Sl.drop hl (by omega)) (by rw [List.length_drop]; omega)
       have hpl := part_len xs (sz * me) kk
       have hsl := sortB_len (lt := Pt.lt) ((xs.drop (kk * (sz * me))).take (min (sz * me) (xs.length - kk * (sz * me))))
       have hSl := hS.len
       have hSn := hS.num
       have hkn : kk ≤ kk * (sz * me) := Nat.le_mul_of_pos_right _ (by omega)
       refine WR.block ?_
       refine WR.seq ?_
       refine WR.region (fun _ _ h => False.elim h) rfl ?_
       refine G.r (Runs.ld ty3) ?_
       refine G.r (Runs.move rfl) ?_
       refine G.r (Runs.build (cells := [_, _]) ty57 Try.underlying57 pl57 rfl rfl) ?_
       refine G.e (Eff.bs (α := RunV) (cs := [_, _]) (xs := [⟨((sz : Nat) : Int), (adrop a0 c0 (kk * (sz * me)) (Enc.sz Pt)), (min (sz * me) (xs.length - kk * (sz * me))), ((xs.drop (kk * (sz * me))).take (min (sz * me) (xs.length - kk * (sz * me))))⟩]) Try.underlying65 ty57 rfl rfl (by decide) (by decide) rfl rfl rfl rfl) ?_
       rintro _ _ ⟨ad6, rfl, rfl⟩
       refine G.r (Runs.ld ty3) ?_
       refine G.e (Eff.call call114 rfl rfl (Merged_ok Sl.o (HeldRuns.cons (Sl.f hpart) HeldRuns.nil) (by intro r hr; simp only [List.mem_cons, List.not_mem_nil, or_false] at hr; rcases hr with rfl; exact ⟨by show (1 : Int) ≤ ((sz : Nat) : Int); omega, by show ((sz : Nat) : Int) ≤ 1024; omega⟩) (fl := ((xs.drop (kk * (sz * me))).take (min (sz * me) (xs.length - kk * (sz * me))))) (by simp) (by omega) (sz := ((sz : Nat) : Int)))) ?_
       rintro _ _ ⟨_, _, ⟨ad7, cp8, rfl, rfl⟩, rfl, rfl⟩
       refine G.r (Runs.move rfl) ?_
       refine G.r (Runs.extract rfl rfl) ?_
       refine G.r (Runs.extract rfl rfl) ?_
       refine G.e (Eff.alloc ty57 rfl) ?_
       rintro _ _ ⟨b9, rfl, rfl⟩
       refine G.e (Eff.st (cs := [_, _]) (vs := [_, _]) (cs' := [_, _]) ty57) ?_
       rintro _ _ ⟨rfl, rfl⟩
       refine G.r (Runs.assign rfl) ?_
       refine G.nil ?_
       refine V.thenR ?_
       refine WR.sub (L' := [(11, _), (9, _), (6, _)]) (Sub.cons rfl (Sub.cons rfl (Sub.cons rfl Sub.nil))) ?_
       refine WR.region (fun _ _ h => False.elim h) rfl ?_
       refine G.r (Runs.ld ty65) ?_
       refine G.r (Runs.lds (vs := [_, _]) ty57) ?_
       refine G.e (Eff.bs (α := RunV) (cs := [_, _]) (xs := [⟨((sz : Nat) : Int), ad7, cp8, sortB Pt.lt ((xs.drop (kk * (sz * me))).take (min (sz * me) (xs.length - kk * (sz * me))))⟩]) Try.underlying65 ty57 rfl rfl (by decide) (by decide) rfl rfl rfl rfl) ?_
       rintro _ _ ⟨ad10, rfl, rfl⟩
       refine G.e (Eff.app (α := RunV) (e := 57) (xs := rs) (ys := ([⟨((sz : Nat) : Int), ad7, cp8, sortB Pt.lt ((xs.drop (kk * (sz * me))).take (min (sz * me) (xs.length - kk * (sz * me))))⟩] : List RunV)) Try.underlying65 ty57 rfl rfl rfl (by repeat (first | exact List.mem_cons_self | apply List.mem_cons_of_mem)) Sl.o (by simp only [List.length_cons, List.length_nil]; omega) (by decide) rfl (fun _ _ => (by repeat (first | exact At.head _ _ _ | apply At.tail)))) ?_
       rintro _ _ ⟨ad11, cp12, rfl, rfl⟩
       refine G.e (Eff.st (cs := [_]) (vs := [_]) (cs' := [_]) ty65) ?_
       rintro _ _ ⟨rfl, rfl⟩
       refine G.nil ?_
       refine V.block_normal ?_
       exact V.round (dfrI Dm :: vc 57 (.slice ad11 (rs ++ ([⟨((sz : Nat) : Int), ad7, cp8, sortB Pt.lt ((xs.drop (kk * (sz * me))).take (min (sz * me) (xs.length - kk * (sz * me))))⟩] : List RunV)).length cp12) ((rs ++ ([⟨((sz : Nat) : Int), ad7, cp8, sortB Pt.lt ((xs.drop (kk * (sz * me))).take (min (sz * me) (xs.length - kk * (sz * me))))⟩] : List RunV))) :: blk b5 [I64 ((((sz * me) : Nat) : Int))] 3 :: blk b4 [.slice a0 xs.length c0] 55 :: blk b3 [.slice ad11 (rs ++ ([⟨((sz : Nat) : Int), ad7, cp8, sortB Pt.lt ((xs.drop (kk * (sz * me))).take (min (sz * me) (xs.length - kk * (sz * me))))⟩] : List RunV)).length cp12] 65 :: blk b2 [I64 (0), .slice none 0 0] 57 :: blk b1 [I64 (((sz : Nat) : Int))] 3 :: (runsI (rs ++ ([⟨((sz : Nat) : Int), ad7, cp8, sortB Pt.lt ((xs.drop (kk * (sz * me))).take (min (sz * me) (xs.length - kk * (sz * me))))⟩] : List RunV)) ++ I)) (Fit.trans (show Fit κ _ (vc 60 (.slice ad7 (sortB Pt.lt ((xs.drop (kk * (sz * me))).take (min (sz * me) (xs.length - kk * (sz * me))))).length cp8) (sortB Pt.lt ((xs.drop (kk * (sz * me))).take (min (sz * me) (xs.length - kk * (sz * me))))) :: recI l { rc with state := .busy } :: dfrI Dm :: vc 57 (.slice ad11 (rs ++ ([⟨((sz : Nat) : Int), ad7, cp8, sortB Pt.lt ((xs.drop (kk * (sz * me))).take (min (sz * me) (xs.length - kk * (sz * me))))⟩] : List RunV)).length cp12) (rs ++ ([⟨((sz : Nat) : Int), ad7, cp8, sortB Pt.lt ((xs.drop (kk * (sz * me))).take (min (sz * me) (xs.length - kk * (sz * me))))⟩] : List RunV)) :: blk b5 [I64 ((((sz * me) : Nat) : Int))] 3 :: blk b4 [.slice a0 xs.length c0] 55 :: blk b3 [.slice ad11 (rs ++ ([⟨((sz : Nat) : Int), ad7, cp8, sortB Pt.lt ((xs.drop (kk * (sz * me))).take (min (sz * me) (xs.length - kk * (sz * me))))⟩] : List RunV)).length cp12] 65 :: blk b2 [I64 (0), .slice none 0 0] 57 :: blk b1 [I64 (((sz : Nat) : Int))] 3 :: (runsI rs ++ I)) from (by first | exact Fit.s | exact Fit.sub)) (Fit.perm (perm_run (A := [recI l { rc with state := .busy }, dfrI Dm, vc 57 (.slice ad11 (rs ++ ([⟨((sz : Nat) : Int), ad7, cp8, sortB Pt.lt ((xs.drop (kk * (sz * me))).take (min (sz * me) (xs.length - kk * (sz * me))))⟩] : List RunV)).length cp12) (rs ++ ([⟨((sz : Nat) : Int), ad7, cp8, sortB Pt.lt ((xs.drop (kk * (sz * me))).take (min (sz * me) (xs.length - kk * (sz * me))))⟩] : List RunV)), blk b5 [I64 ((((sz * me) : Nat) : Int))] 3, blk b4 [.slice a0 xs.length c0] 55, blk b3 [.slice ad11 (rs ++ ([⟨((sz : Nat) : Int), ad7, cp8, sortB Pt.lt ((xs.drop (kk * (sz * me))).take (min (sz * me) (xs.length - kk * (sz * me))))⟩] : List RunV)).length cp12] 65, blk b2 [I64 (0), .slice none 0 0] 57, blk b1 [I64 (((sz : Nat) : Int))] 3]) (rs := rs) (r := (⟨((sz : Nat) : Int), ad7, cp8, sortB Pt.lt ((xs.drop (kk * (sz * me))).take (min (sz * me) (xs.length - kk * (sz * me))))⟩ : RunV)) (I := I)))) hr1 ⟨(ad11, cp12, rs ++ ([⟨((sz : Nat) : Int), ad7, cp8, sortB Pt.lt ((xs.drop (kk * (sz * me))).take (min (sz * me) (xs.length - kk * (sz * me))))⟩] : List RunV)), (show (Sorted1 xs ((sz : Nat) : Int) (sz * me) (kk + 1) (rs ++ ([⟨((sz : Nat) : Int), ad7, cp8, sortB Pt.lt ((xs.drop (kk * (sz * me))).take (min (sz * me) (xs.length - kk * (sz * me))))⟩] : List RunV))) from (hS.snoc hlt)), rfl⟩
      rintro v K ⟨rfl, kk, ⟨a, c, rs⟩, ⟨hle, hlast⟩, hp, rfl⟩
      have hS : (Sorted1 xs ((sz : Nat) : Int) (sz * me) kk rs) := hp
      refine ⟨_, rfl, ?_⟩
      show V κ _ _ .normal ([(43, .func (.func 193) #[] #[.pointer (some ⟨b4, 0, none⟩), .pointer (some ⟨b5, 0, none⟩)]), (9, .pointer (some ⟨b3, 0, none⟩)), (6, .pointer (some ⟨b2, 0, none⟩)), (4, .pointer (some ⟨b1, 0, none⟩)), (2, I64 (((me : Nat) : Int)))] : Env) (dfrI Dm :: vc 57 (.slice a rs.length c) (rs) :: blk b5 [I64 ((((sz * me) : Nat) : Int))] 3 :: blk b4 [.slice a0 xs.length c0] 55 :: blk b3 [.slice a rs.length c] 65 :: blk b2 [I64 (0), .slice none 0 0] 57 :: blk b1 [I64 (((sz : Nat) : Int))] 3 :: (runsI rs ++ I))
      have hSn := hS.num
      have hkn := Nat.le_mul_of_pos_right (kk - 1) (show 0 < sz * me by omega)
      have hkk : kk ≤ 1001 := by omega
      have hk1 : xs.length ≤ sz * me → kk ≤ 1 := fun h => Nat.not_lt.1 fun h3 => by have := Nat.le_mul_of_pos_left (sz * me) (show 0 < kk - 1 by omega); omega
      refine V.block_normal ?_
      refine V.then ?_
      refine W.sr ?_
      refine G.r (Runs.assign rfl) ?_
      refine G.nt ?_
      refine W.seq ?_
      refine W.block ?_
      refine W.loop (σ := (Option Addr) × Nat × (List RunV) × Int) (fun s => ([(2, I64 (((me : Nat) : Int))), (4, .pointer (some ⟨b1, 0, none⟩)), (6, .pointer (some ⟨b2, 0, none⟩)), (9, .pointer (some ⟨b3, 0, none⟩)), (13, I64 (s.2.2.2))] : Env)) (fun s => dfrI Dm :: vc 57 (.slice s.1 s.2.2.1.length s.2.1) (s.2.2.1) :: blk b5 [I64 ((((sz * me) : Nat) : Int))] 3 :: blk b4 [.slice a0 xs.length c0] 55 :: blk b3 [.slice s.1 s.2.2.1.length s.2.1] 65 :: blk b2 [I64 (0), .slice none 0 0] 57 :: blk b1 [I64 (((sz : Nat) : Int))] 3 :: (runsI s.2.2.1 ++ I)) (fun s => (Mrg xs ((sz : Nat) : Int) s.2.2.1) ∧ (0 ≤ s.2.2.2 ∧ s.2.2.2 + 1000 * (s.2.2.1.length : Int) ≤ 1001000) ∧ (xs.length ≤ sz * me → s.2.2.1.length ≤ 1 ∧ s.2.2.2 = 0)) (fun s => s.2.2.1.length) (a, c, rs, 0) (show (Mrg xs ((sz : Nat) : Int) (rs : List RunV)) ∧ (0 ≤ (0 : Int) ∧ (0 : Int) + 1000 * ((rs : List RunV).length : Int) ≤ 1001000) ∧ (xs.length ≤ sz * me → (rs : List RunV).length ≤ 1 ∧ (0 : Int) = 0) from ⟨(hS.mrg hle), (by omega), (fun h => by have := hk1 h; omega)⟩) (Sub.cons rfl (Sub.cons rfl (Sub.cons rfl (Sub.cons rfl (Sub.cons lookO Sub.nil))))) (show Fit κ _ (dfrI Dm :: vc 57 (.slice (a) (rs).length (c)) ((rs)) :: blk b5 [I64 ((((sz * me) : Nat) : Int))] 3 :: blk b4 [.slice a0 xs.length c0] 55 :: blk b3 [.slice (a) (rs).length (c)] 65 :: blk b2 [I64 (0), .slice none 0 0] 57 :: blk b1 [I64 (((sz : Nat) : Int))] 3 :: (runsI (rs) ++ I)) from (by first | exact Fit.s | exact Fit.sub)) ?_
      rintro ⟨a2, c2, rs2, rd⟩ hp
      obtain ⟨hM, hrd, h1⟩ : (Mrg xs ((sz : Nat) : Int) rs2) ∧ (0 ≤ rd ∧ rd + 1000 * (rs2.length : Int) ≤ 1001000) ∧ (xs.length ≤ sz * me → rs2.length ≤ 1 ∧ rd = 0) := hp
      show W Try.prog κ _ _ _ ([(2, I64 (((me : Nat) : Int))), (4, .pointer (some ⟨b1, 0, none⟩)), (6, .pointer (some ⟨b2, 0, none⟩)), (9, .pointer (some ⟨b3, 0, none⟩)), (13, I64 (rd))] : Env) (dfrI Dm :: vc 57 (.slice a2 rs2.length c2) (rs2) :: blk b5 [I64 ((((sz * me) : Nat) : Int))] 3 :: blk b4 [.slice a0 xs.length c0] 55 :: blk b3 [.slice a2 rs2.length c2] 65 :: blk b2 [I64 (0), .slice none 0 0] 57 :: blk b1 [I64 (((sz : Nat) : Int))] 3 :: (runsI rs2 ++ I))
      refine W.seq ?_
      refine W.sr ?_
      refine G.r (Runs.ld ty65) ?_
      refine G.r (Runs.lens Try.underlying65 rfl) ?_
      refine G.r (Runs.gtr rfl rfl) ?_
      refine G.nt ?_
      refine W.ite rfl (fun c60 => ?_) (fun c60 => ?_)
      ·refine W.skip ?_
       refine V.then ?_
       refine W.block ?_
       refine W.sr ?_
       refine G.r (Runs.move rfl) ?_
       refine G.r (Runs.sub rfl rfl (by unfold InR; omega)) ?_
       refine G.r (Runs.ld ty65) ?_
       refine G.r (Runs.lens Try.underlying65 rfl) ?_
       refine G.r (Runs.min rfl rfl) ?_
       refine G.r (Runs.assign rfl) ?_
       obtain ⟨nq, hnq, hnqb⟩ : ∃ nq : Nat, (if ((rs2.length : Nat) : Int) < (((me : Nat) : Int) - 1) then ((rs2.length : Nat) : Int) else (((me : Nat) : Int) - 1)) = ((nq : Nat) : Int) ∧ (2 ≤ nq ∧ nq ≤ rs2.length) := ⟨min (me - 1) rs2.length, by split <;> omega, by omega⟩
       rw [hnq]
       have htk := hM.take (by omega) nq
       have hdl : (List.drop nq rs2).length = rs2.length - nq := List.length_drop
       refine G.nt ?_
       refine W.sub (L' := [(14, _), (2, _), (4, _), (6, _), (9, _), (13, _)]) (Sub.cons rfl (Sub.cons rfl (Sub.cons rfl (Sub.cons rfl (Sub.cons rfl (Sub.cons rfl Sub.nil)))))) ?_
       refine W.seq ?_
       refine W.drawn mixed ?_
       refine A.hold (dfrI Dm :: vc 57 (.slice a2 rs2.length c2) (rs2) :: blk b5 [I64 ((((sz * me) : Nat) : Int))] 3 :: blk b4 [.slice a0 xs.length c0] 55 :: blk b3 [.slice a2 rs2.length c2] 65 :: blk b2 [I64 (0), .slice none 0 0] 57 :: blk b1 [I64 (((sz : Nat) : Int))] 3 :: (runsI rs2 ++ I)) 9 ?_
       refine D.r 0 rfl (Runs.ld ty65) ?_
       refine D.r 1 rfl (Runs.move rfl) ?_
       refine D.r 2 rfl (Runs.hi (α := RunV) (xs := rs2) (h := nq) Try.underlying65 ty57 rfl rfl (by omega) Sl.o (by omega)) ?_
       refine D.r 3 rfl (Runs.ld ty3) ?_
       refine D.step (rs := [4, 8]) (by kernel_rfl) rfl rfl (all2 ?_ (all1 ?_))
       ·refine Step.eff rfl (Wanted.plain rfl) (Eff.call call114 rfl rfl (Merged_ok (Sl.take Sl.o (by omega)) (HeldRuns.fit (I := runsI rs2 ++ I) (fun r hr => runsI_held r (List.mem_of_mem_take hr)) Fit.m) (fun r hr => by have := hM.size r (List.mem_of_mem_take hr); omega) (fl := ((rs2.take nq).map RunV.xs).flatten) rfl (by omega) (sz := ((sz : Nat) : Int)))) ?_
        rintro _ _ ⟨_, _, ⟨ad13, cp14, rfl, rfl⟩, rfl, rfl⟩
        refine ⟨Fit.m, ?_⟩
        refine D.r 5 rfl (Runs.move rfl) ?_
        refine D.r 6 rfl (Runs.extract rfl rfl) ?_
        refine D.step (rs := [7, 8]) (by kernel_rfl) rfl rfl (all2 ?_ (all1 ?_))
        ·refine Step.read rfl (Wanted.plain rfl) rfl rfl (Runs.extract rfl rfl) Fit.m ?_
         refine D.step (rs := [8]) (by kernel_rfl) rfl rfl (all1 ?_)
         refine Step.eff rfl (Wanted.plain rfl) (Eff.alloc ty57 rfl) ?_
         rintro _ _ ⟨b15, rfl, rfl⟩
         refine ⟨Fit.m, ?_⟩
         refine D.stop (by kernel_rfl) ?_
         refine A.eff (i := 9) (by kernel_rfl) rfl (Wanted.plain rfl) (Eff.st (cs := [_, _]) (vs := [_, _]) (cs' := [_, _]) ty57) ?_
         rintro _ _ ⟨rfl, rfl⟩
         refine A.read (i := 10) (by kernel_rfl) rfl (Wanted.plain rfl) rfl rfl (Runs.assign rfl) ?_
         refine A.done (by kernel_rfl) ?_
         refine V.then ?_
         refine W.sub (L' := [(16, _), (15, _), (14, _), (2, _), (4, _), (6, _), (9, _), (13, _)]) (Sub.cons rfl (Sub.cons rfl (Sub.cons rfl (Sub.cons rfl (Sub.cons rfl (Sub.cons rfl (Sub.cons rfl (Sub.cons rfl Sub.nil)))))))) ?_
         refine W.seq ?_
         refine W.drawn mixed ?_
         refine A.hold (blk b15 [I64 (((sz : Nat) : Int)), .slice ad13 (sortB Pt.lt (((rs2.take nq).map RunV.xs).flatten)).length cp14] 57 :: vc 60 (.slice ad13 (sortB Pt.lt (((rs2.take nq).map RunV.xs).flatten)).length cp14) (sortB Pt.lt (((rs2.take nq).map RunV.xs).flatten)) :: dfrI Dm :: vc 57 (.slice a2 rs2.length c2) (rs2) :: blk b5 [I64 ((((sz * me) : Nat) : Int))] 3 :: blk b4 [.slice a0 xs.length c0] 55 :: blk b2 [I64 (0), .slice none 0 0] 57 :: blk b1 [I64 (((sz : Nat) : Int))] 3 :: (runsI rs2 ++ I)) 7 ?_
         refine D.r 1 rfl (Runs.move rfl) ?_ (hJ := Fit.sub)
         refine D.r 4 rfl (Runs.lds (vs := [_, _]) ty57) ?_ (hJ := Fit.sub)
         refine D.step (rs := [0, 5]) (by kernel_rfl) rfl rfl (all2 ?_ (all1 ?_))
         ·refine Step.read rfl (Wanted.plain rfl) rfl rfl (Runs.ld ty65) Fit.sub ?_
          refine D.r 2 rfl (Runs.lo (α := RunV) (xs := rs2) (l := nq) Try.underlying65 ty57 rfl rfl (by omega) Sl.o (by omega)) ?_ (hJ := Fit.sub)
          refine D.step (rs := [3, 5]) (by kernel_rfl) rfl rfl (all2 ?_ (all1 ?_))
          ·refine Step.eff rfl (Wanted.plain rfl) (Eff.call call129 rfl rfl (CloneR (xs := List.drop nq rs2) (Sl.drop Sl.o (by omega)) (by rw [List.length_drop]; omega))) ?_
           rintro _ _ ⟨_, _, ⟨ad16, cp17, rfl, rfl⟩, rfl, rfl⟩
           refine ⟨Fit.sub, ?_⟩
           refine D.step (rs := [5]) (by kernel_rfl) rfl rfl (all1 ?_)
           refine Step.eff rfl (Wanted.plain rfl) (Eff.bs (α := RunV) (cs := [_, _]) (xs := [⟨((sz : Nat) : Int), ad13, cp14, sortB Pt.lt (((rs2.take nq).map RunV.xs).flatten)⟩]) Try.underlying65 ty57 rfl rfl (by decide) (by decide) rfl rfl rfl rfl) ?_
           rintro _ _ ⟨ad18, rfl, rfl⟩
           refine ⟨Fit.sub, ?_⟩
           refine D.step (rs := [6]) (by kernel_rfl) rfl rfl (all1 ?_)
           refine Step.eff rfl (Wanted.plain rfl) (Eff.app (α := RunV) (e := 57) (xs := List.drop nq rs2) (ys := ([⟨((sz : Nat) : Int), ad13, cp14, sortB Pt.lt (((rs2.take nq).map RunV.xs).flatten)⟩] : List RunV)) Try.underlying65 ty57 rfl rfl rfl (by repeat (first | exact List.mem_cons_self | apply List.mem_cons_of_mem)) Sl.o (by simp only [List.length_cons, List.length_nil]; omega) (by decide) rfl (fun _ _ => (by repeat (first | exact At.head _ _ _ | apply At.tail)))) ?_
           rintro _ _ ⟨ad19, cp20, rfl, rfl⟩
           refine ⟨Fit.sub, ?_⟩
           refine D.stop (by kernel_rfl) ?_
           refine A.eff (i := 7) (by kernel_rfl) rfl (Wanted.plain rfl) (Eff.st (cs := [_]) (vs := [_]) (cs' := [_]) ty65) ?_
           rintro _ _ ⟨rfl, rfl⟩
           refine A.done (by kernel_rfl) ?_
           refine V.then ?_
           refine W.sub (L' := [(16, _), (2, _), (4, _), (6, _), (9, _), (13, _)]) (Sub.cons rfl (Sub.cons rfl (Sub.cons rfl (Sub.cons rfl (Sub.cons rfl (Sub.cons rfl Sub.nil)))))) ?_
           refine W.region ?_
           refine G.r (Runs.move rfl) ?_
           refine G.r (Runs.move rfl) ?_
           refine G.r (Runs.add rfl rfl (by unfold InR; omega)) ?_
           refine G.r (Runs.assign rfl) ?_
           refine G.nil ?_
           refine V.block_normal ?_
           exact V.next ((ad19), (cp20), ((List.drop nq rs2) ++ ([⟨((sz : Nat) : Int), ad13, cp14, sortB Pt.lt (((rs2.take nq).map RunV.xs).flatten)⟩] : List RunV)), (rd + ((readsL (List.take nq rs2) : Nat) : Int))) (show (Mrg xs ((sz : Nat) : Int) ((List.drop nq rs2) ++ ([⟨((sz : Nat) : Int), ad13, cp14, sortB Pt.lt (((rs2.take nq).map RunV.xs).flatten)⟩] : List RunV) : List RunV)) ∧ (0 ≤ (rd + ((readsL (List.take nq rs2) : Nat) : Int) : Int) ∧ (rd + ((readsL (List.take nq rs2) : Nat) : Int) : Int) + 1000 * (((List.drop nq rs2) ++ ([⟨((sz : Nat) : Int), ad13, cp14, sortB Pt.lt (((rs2.take nq).map RunV.xs).flatten)⟩] : List RunV) : List RunV).length : Int) ≤ 1001000) ∧ (xs.length ≤ sz * me → ((List.drop nq rs2) ++ ([⟨((sz : Nat) : Int), ad13, cp14, sortB Pt.lt (((rs2.take nq).map RunV.xs).flatten)⟩] : List RunV) : List RunV).length ≤ 1 ∧ (rd + ((readsL (List.take nq rs2) : Nat) : Int) : Int) = 0) from ⟨(hM.merge nq), (by simp only [List.length_append, List.length_drop, List.length_cons, List.length_nil]; omega), (fun h => by have := h1 h; omega)⟩) (show ((List.drop nq rs2) ++ ([⟨((sz : Nat) : Int), ad13, cp14, sortB Pt.lt (((rs2.take nq).map RunV.xs).flatten)⟩] : List RunV) : List RunV).length < rs2.length from (by simp only [List.length_append, List.length_drop, List.length_cons, List.length_nil]; omega)) (Sub.cons rfl (Sub.cons rfl (Sub.cons rfl (Sub.cons rfl (Sub.cons lookO Sub.nil))))) (show Fit κ _ (dfrI Dm :: vc 57 (.slice (ad19) ((List.drop nq rs2) ++ ([⟨((sz : Nat) : Int), ad13, cp14, sortB Pt.lt (((rs2.take nq).map RunV.xs).flatten)⟩] : List RunV)).length (cp20)) (((List.drop nq rs2) ++ ([⟨((sz : Nat) : Int), ad13, cp14, sortB Pt.lt (((rs2.take nq).map RunV.xs).flatten)⟩] : List RunV))) :: blk b5 [I64 ((((sz * me) : Nat) : Int))] 3 :: blk b4 [.slice a0 xs.length c0] 55 :: blk b3 [.slice (ad19) ((List.drop nq rs2) ++ ([⟨((sz : Nat) : Int), ad13, cp14, sortB Pt.lt (((rs2.take nq).map RunV.xs).flatten)⟩] : List RunV)).length (cp20)] 65 :: blk b2 [I64 (0), .slice none 0 0] 57 :: blk b1 [I64 (((sz : Nat) : Int))] 3 :: (runsI ((List.drop nq rs2) ++ ([⟨((sz : Nat) : Int), ad13, cp14, sortB Pt.lt (((rs2.take nq).map RunV.xs).flatten)⟩] : List RunV)) ++ I)) from (Fit.trans (show Fit κ _ (vc 60 (.slice ad13 (sortB Pt.lt (((rs2.take nq).map RunV.xs).flatten)).length cp14) (sortB Pt.lt (((rs2.take nq).map RunV.xs).flatten)) :: dfrI Dm :: vc 57 (.slice ad19 ((List.drop nq rs2) ++ ([⟨((sz : Nat) : Int), ad13, cp14, sortB Pt.lt (((rs2.take nq).map RunV.xs).flatten)⟩] : List RunV)).length cp20) ((List.drop nq rs2) ++ ([⟨((sz : Nat) : Int), ad13, cp14, sortB Pt.lt (((rs2.take nq).map RunV.xs).flatten)⟩] : List RunV)) :: blk b5 [I64 ((((sz * me) : Nat) : Int))] 3 :: blk b4 [.slice a0 xs.length c0] 55 :: blk b3 [.slice ad19 ((List.drop nq rs2) ++ ([⟨((sz : Nat) : Int), ad13, cp14, sortB Pt.lt (((rs2.take nq).map RunV.xs).flatten)⟩] : List RunV)).length cp20] 65 :: blk b2 [I64 (0), .slice none 0 0] 57 :: blk b1 [I64 (((sz : Nat) : Int))] 3 :: (runsI rs2 ++ I)) from (by first | exact Fit.s | exact Fit.sub)) (Fit.trans (runsI_drop (A := vc 60 (.slice ad13 (sortB Pt.lt (((rs2.take nq).map RunV.xs).flatten)).length cp14) (sortB Pt.lt (((rs2.take nq).map RunV.xs).flatten)) :: [dfrI Dm, vc 57 (.slice ad19 ((List.drop nq rs2) ++ ([⟨((sz : Nat) : Int), ad13, cp14, sortB Pt.lt (((rs2.take nq).map RunV.xs).flatten)⟩] : List RunV)).length cp20) ((List.drop nq rs2) ++ ([⟨((sz : Nat) : Int), ad13, cp14, sortB Pt.lt (((rs2.take nq).map RunV.xs).flatten)⟩] : List RunV)), blk b5 [I64 ((((sz * me) : Nat) : Int))] 3, blk b4 [.slice a0 xs.length c0] 55, blk b3 [.slice ad19 ((List.drop nq rs2) ++ ([⟨((sz : Nat) : Int), ad13, cp14, sortB Pt.lt (((rs2.take nq).map RunV.xs).flatten)⟩] : List RunV)).length cp20] 65, blk b2 [I64 (0), .slice none 0 0] 57, blk b1 [I64 (((sz : Nat) : Int))] 3]) (n := nq)) (Fit.perm (perm_run (A := [dfrI Dm, vc 57 (.slice ad19 ((List.drop nq rs2) ++ ([⟨((sz : Nat) : Int), ad13, cp14, sortB Pt.lt (((rs2.take nq).map RunV.xs).flatten)⟩] : List RunV)).length cp20) ((List.drop nq rs2) ++ ([⟨((sz : Nat) : Int), ad13, cp14, sortB Pt.lt (((rs2.take nq).map RunV.xs).flatten)⟩] : List RunV)), blk b5 [I64 ((((sz * me) : Nat) : Int))] 3, blk b4 [.slice a0 xs.length c0] 55, blk b3 [.slice ad19 ((List.drop nq rs2) ++ ([⟨((sz : Nat) : Int), ad13, cp14, sortB Pt.lt (((rs2.take nq).map RunV.xs).flatten)⟩] : List RunV)).length cp20] 65, blk b2 [I64 (0), .slice none 0 0] 57, blk b1 [I64 (((sz : Nat) : Int))] 3]) (rs := rs2.drop nq) (r := (⟨((sz : Nat) : Int), ad13, cp14, sortB Pt.lt (((rs2.take nq).map RunV.xs).flatten)⟩ : RunV)) (I := I))))))
          ·refine Step.eff rfl (Wanted.plain rfl) (Eff.bs (α := RunV) (cs := [_, _]) (xs := [⟨((sz : Nat) : Int), ad13, cp14, sortB Pt.lt (((rs2.take nq).map RunV.xs).flatten)⟩]) Try.underlying65 ty57 rfl rfl (by decide) (by decide) rfl rfl rfl rfl) ?_
           rintro _ _ ⟨ad21, rfl, rfl⟩
           refine ⟨Fit.sub, ?_⟩
           refine D.step (rs := [3]) (by kernel_rfl) rfl rfl (all1 ?_)
           refine Step.eff rfl (Wanted.plain rfl) (Eff.call call129 rfl rfl (CloneR (xs := List.drop nq rs2) (Sl.drop Sl.o (by omega)) (by rw [List.length_drop]; omega))) ?_
           rintro _ _ ⟨_, _, ⟨ad22, cp23, rfl, rfl⟩, rfl, rfl⟩
           refine ⟨Fit.sub, ?_⟩
           refine D.step (rs := [6]) (by kernel_rfl) rfl rfl (all1 ?_)
           refine Step.eff rfl (Wanted.plain rfl) (Eff.app (α := RunV) (e := 57) (xs := List.drop nq rs2) (ys := ([⟨((sz : Nat) : Int), ad13, cp14, sortB Pt.lt (((rs2.take nq).map RunV.xs).flatten)⟩] : List RunV)) Try.underlying65 ty57 rfl rfl rfl (by repeat (first | exact List.mem_cons_self | apply List.mem_cons_of_mem)) Sl.o (by simp only [List.length_cons, List.length_nil]; omega) (by decide) rfl (fun _ _ => (by repeat (first | exact At.head _ _ _ | apply At.tail)))) ?_
           rintro _ _ ⟨ad24, cp25, rfl, rfl⟩
           refine ⟨Fit.sub, ?_⟩
           refine D.stop (by kernel_rfl) ?_
           refine A.eff (i := 7) (by kernel_rfl) rfl (Wanted.plain rfl) (Eff.st (cs := [_]) (vs := [_]) (cs' := [_]) ty65) ?_
           rintro _ _ ⟨rfl, rfl⟩
           refine A.done (by kernel_rfl) ?_
           refine V.then ?_
           refine W.sub (L' := [(16, _), (2, _), (4, _), (6, _), (9, _), (13, _)]) (Sub.cons rfl (Sub.cons rfl (Sub.cons rfl (Sub.cons rfl (Sub.cons rfl (Sub.cons rfl Sub.nil)))))) ?_
           refine W.region ?_
           refine G.r (Runs.move rfl) ?_
           refine G.r (Runs.move rfl) ?_
           refine G.r (Runs.add rfl rfl (by unfold InR; omega)) ?_
           refine G.r (Runs.assign rfl) ?_
           refine G.nil ?_
           refine V.block_normal ?_
           exact V.next ((ad24), (cp25), ((List.drop nq rs2) ++ ([⟨((sz : Nat) : Int), ad13, cp14, sortB Pt.lt (((rs2.take nq).map RunV.xs).flatten)⟩] : List RunV)), (rd + ((readsL (List.take nq rs2) : Nat) : Int))) (show (Mrg xs ((sz : Nat) : Int) ((List.drop nq rs2) ++ ([⟨((sz : Nat) : Int), ad13, cp14, sortB Pt.lt (((rs2.take nq).map RunV.xs).flatten)⟩] : List RunV) : List RunV)) ∧ (0 ≤ (rd + ((readsL (List.take nq rs2) : Nat) : Int) : Int) ∧ (rd + ((readsL (List.take nq rs2) : Nat) : Int) : Int) + 1000 * (((List.drop nq rs2) ++ ([⟨((sz : Nat) : Int), ad13, cp14, sortB Pt.lt (((rs2.take nq).map RunV.xs).flatten)⟩] : List RunV) : List RunV).length : Int) ≤ 1001000) ∧ (xs.length ≤ sz * me → ((List.drop nq rs2) ++ ([⟨((sz : Nat) : Int), ad13, cp14, sortB Pt.lt (((rs2.take nq).map RunV.xs).flatten)⟩] : List RunV) : List RunV).length ≤ 1 ∧ (rd + ((readsL (List.take nq rs2) : Nat) : Int) : Int) = 0) from ⟨(hM.merge nq), (by simp only [List.length_append, List.length_drop, List.length_cons, List.length_nil]; omega), (fun h => by have := h1 h; omega)⟩) (show ((List.drop nq rs2) ++ ([⟨((sz : Nat) : Int), ad13, cp14, sortB Pt.lt (((rs2.take nq).map RunV.xs).flatten)⟩] : List RunV) : List RunV).length < rs2.length from (by simp only [List.length_append, List.length_drop, List.length_cons, List.length_nil]; omega)) (Sub.cons rfl (Sub.cons rfl (Sub.cons rfl (Sub.cons rfl (Sub.cons lookO Sub.nil))))) (show Fit κ _ (dfrI Dm :: vc 57 (.slice (ad24) ((List.drop nq rs2) ++ ([⟨((sz : Nat) : Int), ad13, cp14, sortB Pt.lt (((rs2.take nq).map RunV.xs).flatten)⟩] : List RunV)).length (cp25)) (((List.drop nq rs2) ++ ([⟨((sz : Nat) : Int), ad13, cp14, sortB Pt.lt (((rs2.take nq).map RunV.xs).flatten)⟩] : List RunV))) :: blk b5 [I64 ((((sz * me) : Nat) : Int))] 3 :: blk b4 [.slice a0 xs.length c0] 55 :: blk b3 [.slice (ad24) ((List.drop nq rs2) ++ ([⟨((sz : Nat) : Int), ad13, cp14, sortB Pt.lt (((rs2.take nq).map RunV.xs).flatten)⟩] : List RunV)).length (cp25)] 65 :: blk b2 [I64 (0), .slice none 0 0] 57 :: blk b1 [I64 (((sz : Nat) : Int))] 3 :: (runsI ((List.drop nq rs2) ++ ([⟨((sz : Nat) : Int), ad13, cp14, sortB Pt.lt (((rs2.take nq).map RunV.xs).flatten)⟩] : List RunV)) ++ I)) from (Fit.trans (show Fit κ _ (vc 60 (.slice ad13 (sortB Pt.lt (((rs2.take nq).map RunV.xs).flatten)).length cp14) (sortB Pt.lt (((rs2.take nq).map RunV.xs).flatten)) :: dfrI Dm :: vc 57 (.slice ad24 ((List.drop nq rs2) ++ ([⟨((sz : Nat) : Int), ad13, cp14, sortB Pt.lt (((rs2.take nq).map RunV.xs).flatten)⟩] : List RunV)).length cp25) ((List.drop nq rs2) ++ ([⟨((sz : Nat) : Int), ad13, cp14, sortB Pt.lt (((rs2.take nq).map RunV.xs).flatten)⟩] : List RunV)) :: blk b5 [I64 ((((sz * me) : Nat) : Int))] 3 :: blk b4 [.slice a0 xs.length c0] 55 :: blk b3 [.slice ad24 ((List.drop nq rs2) ++ ([⟨((sz : Nat) : Int), ad13, cp14, sortB Pt.lt (((rs2.take nq).map RunV.xs).flatten)⟩] : List RunV)).length cp25] 65 :: blk b2 [I64 (0), .slice none 0 0] 57 :: blk b1 [I64 (((sz : Nat) : Int))] 3 :: (runsI rs2 ++ I)) from (by first | exact Fit.s | exact Fit.sub)) (Fit.trans (runsI_drop (A := vc 60 (.slice ad13 (sortB Pt.lt (((rs2.take nq).map RunV.xs).flatten)).length cp14) (sortB Pt.lt (((rs2.take nq).map RunV.xs).flatten)) :: [dfrI Dm, vc 57 (.slice ad24 ((List.drop nq rs2) ++ ([⟨((sz : Nat) : Int), ad13, cp14, sortB Pt.lt (((rs2.take nq).map RunV.xs).flatten)⟩] : List RunV)).length cp25) ((List.drop nq rs2) ++ ([⟨((sz : Nat) : Int), ad13, cp14, sortB Pt.lt (((rs2.take nq).map RunV.xs).flatten)⟩] : List RunV)), blk b5 [I64 ((((sz * me) : Nat) : Int))] 3, blk b4 [.slice a0 xs.length c0] 55, blk b3 [.slice ad24 ((List.drop nq rs2) ++ ([⟨((sz : Nat) : Int), ad13, cp14, sortB Pt.lt (((rs2.take nq).map RunV.xs).flatten)⟩] : List RunV)).length cp25] 65, blk b2 [I64 (0), .slice none 0 0] 57, blk b1 [I64 (((sz : Nat) : Int))] 3]) (n := nq)) (Fit.perm (perm_run (A := [dfrI Dm, vc 57 (.slice ad24 ((List.drop nq rs2) ++ ([⟨((sz : Nat) : Int), ad13, cp14, sortB Pt.lt (((rs2.take nq).map RunV.xs).flatten)⟩] : List RunV)).length cp25) ((List.drop nq rs2) ++ ([⟨((sz : Nat) : Int), ad13, cp14, sortB Pt.lt (((rs2.take nq).map RunV.xs).flatten)⟩] : List RunV)), blk b5 [I64 ((((sz * me) : Nat) : Int))] 3, blk b4 [.slice a0 xs.length c0] 55, blk b3 [.slice ad24 ((List.drop nq rs2) ++ ([⟨((sz : Nat) : Int), ad13, cp14, sortB Pt.lt (((rs2.take nq).map RunV.xs).flatten)⟩] : List RunV)).length cp25] 65, blk b2 [I64 (0), .slice none 0 0] 57, blk b1 [I64 (((sz : Nat) : Int))] 3]) (rs := rs2.drop nq) (r := (⟨((sz : Nat) : Int), ad13, cp14, sortB Pt.lt (((rs2.take nq).map RunV.xs).flatten)⟩ : RunV)) (I := I))))))
         ·refine Step.eff rfl (Wanted.plain rfl) (Eff.bs (α := RunV) (cs := [_, _]) (xs := [⟨((sz : Nat) : Int), ad13, cp14, sortB Pt.lt (((rs2.take nq).map RunV.xs).flatten)⟩]) Try.underlying65 ty57 rfl rfl (by decide) (by decide) rfl rfl rfl rfl) ?_
          rintro _ _ ⟨ad26, rfl, rfl⟩
          refine ⟨Fit.sub, ?_⟩
          refine D.step (rs := [0]) (by kernel_rfl) rfl rfl (all1 ?_)
          refine Step.read rfl (Wanted.plain rfl) rfl rfl (Runs.ld ty65) Fit.sub ?_
          refine D.r 2 rfl (Runs.lo (α := RunV) (xs := rs2) (l := nq) Try.underlying65 ty57 rfl rfl (by omega) Sl.o (by omega)) ?_ (hJ := Fit.sub)
          refine D.step (rs := [3]) (by kernel_rfl) rfl rfl (all1 ?_)
          refine Step.eff rfl (Wanted.plain rfl) (Eff.call call129 rfl rfl (CloneR (xs := List.drop nq rs2) (Sl.drop Sl.o (by omega)) (by rw [List.length_drop]; omega))) ?_
          rintro _ _ ⟨_, _, ⟨ad27, cp28, rfl, rfl⟩, rfl, rfl⟩
          refine ⟨Fit.sub, ?_⟩
          refine D.step (rs := [6]) (by kernel_rfl) rfl rfl (all1 ?_)
          refine Step.eff rfl (Wanted.plain rfl) (Eff.app (α := RunV) (e := 57) (xs := List.drop nq rs2) (ys := ([⟨((sz : Nat) : Int), ad13, cp14, sortB Pt.lt (((rs2.take nq).map RunV.xs).flatten)⟩] : List RunV)) Try.underlying65 ty57 rfl rfl rfl (by repeat (first | exact List.mem_cons_self | apply List.mem_cons_of_mem)) Sl.o (by simp only [List.length_cons, List.length_nil]; omega) (by decide) rfl (fun _ _ => (by repeat (first | exact At.head _ _ _ | apply At.tail)))) ?_
          rintro _ _ ⟨ad29, cp30, rfl, rfl⟩
          refine ⟨Fit.sub, ?_⟩
          refine D.stop (by kernel_rfl) ?_
          refine A.eff (i := 7) (by kernel_rfl) rfl (Wanted.plain rfl) (Eff.st (cs := [_]) (vs := [_]) (cs' := [_]) ty65) ?_
          rintro _ _ ⟨rfl, rfl⟩
          refine A.done (by kernel_rfl) ?_
          refine V.then ?_
          refine W.sub (L' := [(16, _), (2, _), (4, _), (6, _), (9, _), (13, _)]) (Sub.cons rfl (Sub.cons rfl (Sub.cons rfl (Sub.cons rfl (Sub.cons rfl (Sub.cons rfl Sub.nil)))))) ?_
          refine W.region ?_
          refine G.r (Runs.move rfl) ?_
          refine G.r (Runs.move rfl) ?_
          refine G.r (Runs.add rfl rfl (by unfold InR; omega)) ?_
          refine G.r (Runs.assign rfl) ?_
          refine G.nil ?_
          refine V.block_normal ?_
          exact V.next ((ad29), (cp30), ((List.drop nq rs2) ++ ([⟨((sz : Nat) : Int), ad13, cp14, sortB Pt.lt (((rs2.take nq).map RunV.xs).flatten)⟩] : List RunV)), (rd + ((readsL (List.take nq rs2) : Nat) : Int))) (show (Mrg xs ((sz : Nat) : Int) ((List.drop nq rs2) ++ ([⟨((sz : Nat) : Int), ad13, cp14, sortB Pt.lt (((rs2.take nq).map RunV.xs).flatten)⟩] : List RunV) : List RunV)) ∧ (0 ≤ (rd + ((readsL (List.take nq rs2) : Nat) : Int) : Int) ∧ (rd + ((readsL (List.take nq rs2) : Nat) : Int) : Int) + 1000 * (((List.drop nq rs2) ++ ([⟨((sz : Nat) : Int), ad13, cp14, sortB Pt.lt (((rs2.take nq).map RunV.xs).flatten)⟩] : List RunV) : List RunV).length : Int) ≤ 1001000) ∧ (xs.length ≤ sz * me → ((List.drop nq rs2) ++ ([⟨((sz : Nat) : Int), ad13, cp14, sortB Pt.lt (((rs2.take nq).map RunV.xs).flatten)⟩] : List RunV) : List RunV).length ≤ 1 ∧ (rd + ((readsL (List.take nq rs2) : Nat) : Int) : Int) = 0) from ⟨(hM.merge nq), (by simp only [List.length_append, List.length_drop, List.length_cons, List.length_nil]; omega), (fun h => by have := h1 h; omega)⟩) (show ((List.drop nq rs2) ++ ([⟨((sz : Nat) : Int), ad13, cp14, sortB Pt.lt (((rs2.take nq).map RunV.xs).flatten)⟩] : List RunV) : List RunV).length < rs2.length from (by simp only [List.length_append, List.length_drop, List.length_cons, List.length_nil]; omega)) (Sub.cons rfl (Sub.cons rfl (Sub.cons rfl (Sub.cons rfl (Sub.cons lookO Sub.nil))))) (show Fit κ _ (dfrI Dm :: vc 57 (.slice (ad29) ((List.drop nq rs2) ++ ([⟨((sz : Nat) : Int), ad13, cp14, sortB Pt.lt (((rs2.take nq).map RunV.xs).flatten)⟩] : List RunV)).length (cp30)) (((List.drop nq rs2) ++ ([⟨((sz : Nat) : Int), ad13, cp14, sortB Pt.lt (((rs2.take nq).map RunV.xs).flatten)⟩] : List RunV))) :: blk b5 [I64 ((((sz * me) : Nat) : Int))] 3 :: blk b4 [.slice a0 xs.length c0] 55 :: blk b3 [.slice (ad29) ((List.drop nq rs2) ++ ([⟨((sz : Nat) : Int), ad13, cp14, sortB Pt.lt (((rs2.take nq).map RunV.xs).flatten)⟩] : List RunV)).length (cp30)] 65 :: blk b2 [I64 (0), .slice none 0 0] 57 :: blk b1 [I64 (((sz : Nat) : Int))] 3 :: (runsI ((List.drop nq rs2) ++ ([⟨((sz : Nat) : Int), ad13, cp14, sortB Pt.lt (((rs2.take nq).map RunV.xs).flatten)⟩] : List RunV)) ++ I)) from (Fit.trans (show Fit κ _ (vc 60 (.slice ad13 (sortB Pt.lt (((rs2.take nq).map RunV.xs).flatten)).length cp14) (sortB Pt.lt (((rs2.take nq).map RunV.xs).flatten)) :: dfrI Dm :: vc 57 (.slice ad29 ((List.drop nq rs2) ++ ([⟨((sz : Nat) : Int), ad13, cp14, sortB Pt.lt (((rs2.take nq).map RunV.xs).flatten)⟩] : List RunV)).length cp30) ((List.drop nq rs2) ++ ([⟨((sz : Nat) : Int), ad13, cp14, sortB Pt.lt (((rs2.take nq).map RunV.xs).flatten)⟩] : List RunV)) :: blk b5 [I64 ((((sz * me) : Nat) : Int))] 3 :: blk b4 [.slice a0 xs.length c0] 55 :: blk b3 [.slice ad29 ((List.drop nq rs2) ++ ([⟨((sz : Nat) : Int), ad13, cp14, sortB Pt.lt (((rs2.take nq).map RunV.xs).flatten)⟩] : List RunV)).length cp30] 65 :: blk b2 [I64 (0), .slice none 0 0] 57 :: blk b1 [I64 (((sz : Nat) : Int))] 3 :: (runsI rs2 ++ I)) from (by first | exact Fit.s | exact Fit.sub)) (Fit.trans (runsI_drop (A := vc 60 (.slice ad13 (sortB Pt.lt (((rs2.take nq).map RunV.xs).flatten)).length cp14) (sortB Pt.lt (((rs2.take nq).map RunV.xs).flatten)) :: [dfrI Dm, vc 57 (.slice ad29 ((List.drop nq rs2) ++ ([⟨((sz : Nat) : Int), ad13, cp14, sortB Pt.lt (((rs2.take nq).map RunV.xs).flatten)⟩] : List RunV)).length cp30) ((List.drop nq rs2) ++ ([⟨((sz : Nat) : Int), ad13, cp14, sortB Pt.lt (((rs2.take nq).map RunV.xs).flatten)⟩] : List RunV)), blk b5 [I64 ((((sz * me) : Nat) : Int))] 3, blk b4 [.slice a0 xs.length c0] 55, blk b3 [.slice ad29 ((List.drop nq rs2) ++ ([⟨((sz : Nat) : Int), ad13, cp14, sortB Pt.lt (((rs2.take nq).map RunV.xs).flatten)⟩] : List RunV)).length cp30] 65, blk b2 [I64 (0), .slice none 0 0] 57, blk b1 [I64 (((sz : Nat) : Int))] 3]) (n := nq)) (Fit.perm (perm_run (A := [dfrI Dm, vc 57 (.slice ad29 ((List.drop nq rs2) ++ ([⟨((sz : Nat) : Int), ad13, cp14, sortB Pt.lt (((rs2.take nq).map RunV.xs).flatten)⟩] : List RunV)).length cp30) ((List.drop nq rs2) ++ ([⟨((sz : Nat) : Int), ad13, cp14, sortB Pt.lt (((rs2.take nq).map RunV.xs).flatten)⟩] : List RunV)), blk b5 [I64 ((((sz * me) : Nat) : Int))] 3, blk b4 [.slice a0 xs.length c0] 55, blk b3 [.slice ad29 ((List.drop nq rs2) ++ ([⟨((sz : Nat) : Int), ad13, cp14, sortB Pt.lt (((rs2.take nq).map RunV.xs).flatten)⟩] : List RunV)).length cp30] 65, blk b2 [I64 (0), .slice none 0 0] 57, blk b1 [I64 (((sz : Nat) : Int))] 3]) (rs := rs2.drop nq) (r := (⟨((sz : Nat) : Int), ad13, cp14, sortB Pt.lt (((rs2.take nq).map RunV.xs).flatten)⟩ : RunV)) (I := I))))))
        ·refine Step.eff rfl (Wanted.plain rfl) (Eff.alloc ty57 rfl) ?_
         rintro _ _ ⟨b31, rfl, rfl⟩
         refine ⟨Fit.m, ?_⟩
         refine D.step (rs := [7, 9]) (by kernel_rfl) rfl rfl (all2 ?_ (all1 ?_))
         ·refine Step.read rfl (Wanted.plain rfl) rfl rfl (Runs.extract rfl rfl) Fit.m ?_
          refine D.stop (by kernel_rfl) ?_
          refine A.eff (i := 9) (by kernel_rfl) rfl (Wanted.plain rfl) (Eff.st (cs := [_, _]) (vs := [_, _]) (cs' := [_, _]) ty57) ?_
          rintro _ _ ⟨rfl, rfl⟩
          refine A.read (i := 10) (by kernel_rfl) rfl (Wanted.plain rfl) rfl rfl (Runs.assign rfl) ?_
          refine A.done (by kernel_rfl) ?_
          refine V.then ?_
          refine W.sub (L' := [(16, _), (15, _), (14, _), (2, _), (4, _), (6, _), (9, _), (13, _)]) (Sub.cons rfl (Sub.cons rfl (Sub.cons rfl (Sub.cons rfl (Sub.cons rfl (Sub.cons rfl (Sub.cons rfl (Sub.cons rfl Sub.nil)))))))) ?_
          refine W.seq ?_
          refine W.drawn mixed ?_
          refine A.hold (blk b31 [I64 (((sz : Nat) : Int)), .slice ad13 (sortB Pt.lt (((rs2.take nq).map RunV.xs).flatten)).length cp14] 57 :: vc 60 (.slice ad13 (sortB Pt.lt (((rs2.take nq).map RunV.xs).flatten)).length cp14) (sortB Pt.lt (((rs2.take nq).map RunV.xs).flatten)) :: dfrI Dm :: vc 57 (.slice a2 rs2.length c2) (rs2) :: blk b5 [I64 ((((sz * me) : Nat) : Int))] 3 :: blk b4 [.slice a0 xs.length c0] 55 :: blk b2 [I64 (0), .slice none 0 0] 57 :: blk b1 [I64 (((sz : Nat) : Int))] 3 :: (runsI rs2 ++ I)) 7 ?_
          refine D.r 1 rfl (Runs.move rfl) ?_ (hJ := Fit.sub)
          refine D.r 4 rfl (Runs.lds (vs := [_, _]) ty57) ?_ (hJ := Fit.sub)
          refine D.step (rs := [0, 5]) (by kernel_rfl) rfl rfl (all2 ?_ (all1 ?_))
          ·refine Step.read rfl (Wanted.plain rfl) rfl rfl (Runs.ld ty65) Fit.sub ?_
           refine D.r 2 rfl (Runs.lo (α := RunV) (xs := rs2) (l := nq) Try.underlying65 ty57 rfl rfl (by omega) Sl.o (by omega)) ?_ (hJ := Fit.sub)
           refine D.step (rs := [3, 5]) (by kernel_rfl) rfl rfl (all2 ?_ (all1 ?_))
           ·refine Step.eff rfl (Wanted.plain rfl) (Eff.call call129 rfl rfl (CloneR (xs := List.drop nq rs2) (Sl.drop Sl.o (by omega)) (by rw [List.length_drop]; omega))) ?_
            rintro _ _ ⟨_, _, ⟨ad32, cp33, rfl, rfl⟩, rfl, rfl⟩
            refine ⟨Fit.sub, ?_⟩
            refine D.step (rs := [5]) (by kernel_rfl) rfl rfl (all1 ?_)
            refine Step.eff rfl (Wanted.plain rfl) (Eff.bs (α := RunV) (cs := [_, _]) (xs := [⟨((sz : Nat) : Int), ad13, cp14, sortB Pt.lt (((rs2.take nq).map RunV.xs).flatten)⟩]) Try.underlying65 ty57 rfl rfl (by decide) (by decide) rfl rfl rfl rfl) ?_
            rintro _ _ ⟨ad34, rfl, rfl⟩
            refine ⟨Fit.sub, ?_⟩
            refine D.step (rs := [6]) (by kernel_rfl) rfl rfl (all1 ?_)
            refine Step.eff rfl (Wanted.plain rfl) (Eff.app (α := RunV) (e := 57) (xs := List.drop nq rs2) (ys := ([⟨((sz : Nat) : Int), ad13, cp14, sortB Pt.lt (((rs2.take nq).map RunV.xs).flatten)⟩] : List RunV)) Try.underlying65 ty57 rfl rfl rfl (by repeat (first | exact List.mem_cons_self | apply List.mem_cons_of_mem)) Sl.o (by simp only [List.length_cons, List.length_nil]; omega) (by decide) rfl (fun _ _ => (by repeat (first | exact At.head _ _ _ | apply At.tail)))) ?_
            rintro _ _ ⟨ad35, cp36, rfl, rfl⟩
            refine ⟨Fit.sub, ?_⟩
            refine D.stop (by kernel_rfl) ?_
            refine A.eff (i := 7) (by kernel_rfl) rfl (Wanted.plain rfl) (Eff.st (cs := [_]) (vs := [_]) (cs' := [_]) ty65) ?_
            rintro _ _ ⟨rfl, rfl⟩
            refine A.done (by kernel_rfl) ?_
            refine V.then ?_
            refine W.sub (L' := [(16, _), (2, _), (4, _), (6, _), (9, _), (13, _)]) (Sub.cons rfl (Sub.cons rfl (Sub.cons rfl (Sub.cons rfl (Sub.cons rfl (Sub.cons rfl Sub.nil)))))) ?_
            refine W.region ?_
            refine G.r (Runs.move rfl) ?_
            refine G.r (Runs.move rfl) ?_
            refine G.r (Runs.add rfl rfl (by unfold InR; omega)) ?_
            refine G.r (Runs.assign rfl) ?_
            refine G.nil ?_
            refine V.block_normal ?_
            exact V.next ((ad35), (cp36), ((List.drop nq rs2) ++ ([⟨((sz : Nat) : Int), ad13, cp14, sortB Pt.lt (((rs2.take nq).map RunV.xs).flatten)⟩] : List RunV)), (rd + ((readsL (List.take nq rs2) : Nat) : Int))) (show (Mrg xs ((sz : Nat) : Int) ((List.drop nq rs2) ++ ([⟨((sz : Nat) : Int), ad13, cp14, sortB Pt.lt (((rs2.take nq).map RunV.xs).flatten)⟩] : List RunV) : List RunV)) ∧ (0 ≤ (rd + ((readsL (List.take nq rs2) : Nat) : Int) : Int) ∧ (rd + ((readsL (List.take nq rs2) : Nat) : Int) : Int) + 1000 * (((List.drop nq rs2) ++ ([⟨((sz : Nat) : Int), ad13, cp14, sortB Pt.lt (((rs2.take nq).map RunV.xs).flatten)⟩] : List RunV) : List RunV).length : Int) ≤ 1001000) ∧ (xs.length ≤ sz * me → ((List.drop nq rs2) ++ ([⟨((sz : Nat) : Int), ad13, cp14, sortB Pt.lt (((rs2.take nq).map RunV.xs).flatten)⟩] : List RunV) : List RunV).length ≤ 1 ∧ (rd + ((readsL (List.take nq rs2) : Nat) : Int) : Int) = 0) from ⟨(hM.merge nq), (by simp only [List.length_append, List.length_drop, List.length_cons, List.length_nil]; omega), (fun h => by have := h1 h; omega)⟩) (show ((List.drop nq rs2) ++ ([⟨((sz : Nat) : Int), ad13, cp14, sortB Pt.lt (((rs2.take nq).map RunV.xs).flatten)⟩] : List RunV) : List RunV).length < rs2.length from (by simp only [List.length_append, List.length_drop, List.length_cons, List.length_nil]; omega)) (Sub.cons rfl (Sub.cons rfl (Sub.cons rfl (Sub.cons rfl (Sub.cons lookO Sub.nil))))) (show Fit κ _ (dfrI Dm :: vc 57 (.slice (ad35) ((List.drop nq rs2) ++ ([⟨((sz : Nat) : Int), ad13, cp14, sortB Pt.lt (((rs2.take nq).map RunV.xs).flatten)⟩] : List RunV)).length (cp36)) (((List.drop nq rs2) ++ ([⟨((sz : Nat) : Int), ad13, cp14, sortB Pt.lt (((rs2.take nq).map RunV.xs).flatten)⟩] : List RunV))) :: blk b5 [I64 ((((sz * me) : Nat) : Int))] 3 :: blk b4 [.slice a0 xs.length c0] 55 :: blk b3 [.slice (ad35) ((List.drop nq rs2) ++ ([⟨((sz : Nat) : Int), ad13, cp14, sortB Pt.lt (((rs2.take nq).map RunV.xs).flatten)⟩] : List RunV)).length (cp36)] 65 :: blk b2 [I64 (0), .slice none 0 0] 57 :: blk b1 [I64 (((sz : Nat) : Int))] 3 :: (runsI ((List.drop nq rs2) ++ ([⟨((sz : Nat) : Int), ad13, cp14, sortB Pt.lt (((rs2.take nq).map RunV.xs).flatten)⟩] : List RunV)) ++ I)) from (Fit.trans (show Fit κ _ (vc 60 (.slice ad13 (sortB Pt.lt (((rs2.take nq).map RunV.xs).flatten)).length cp14) (sortB Pt.lt (((rs2.take nq).map RunV.xs).flatten)) :: dfrI Dm :: vc 57 (.slice ad35 ((List.drop nq rs2) ++ ([⟨((sz : Nat) : Int), ad13, cp14, sortB Pt.lt (((rs2.take nq).map RunV.xs).flatten)⟩] : List RunV)).length cp36) ((List.drop nq rs2) ++ ([⟨((sz : Nat) : Int), ad13, cp14, sortB Pt.lt (((rs2.take nq).map RunV.xs).flatten)⟩] : List RunV)) :: blk b5 [I64 ((((sz * me) : Nat) : Int))] 3 :: blk b4 [.slice a0 xs.length c0] 55 :: blk b3 [.slice ad35 ((List.drop nq rs2) ++ ([⟨((sz : Nat) : Int), ad13, cp14, sortB Pt.lt (((rs2.take nq).map RunV.xs).flatten)⟩] : List RunV)).length cp36] 65 :: blk b2 [I64 (0), .slice none 0 0] 57 :: blk b1 [I64 (((sz : Nat) : Int))] 3 :: (runsI rs2 ++ I)) from (by first | exact Fit.s | exact Fit.sub)) (Fit.trans (runsI_drop (A := vc 60 (.slice ad13 (sortB Pt.lt (((rs2.take nq).map RunV.xs).flatten)).length cp14) (sortB Pt.lt (((rs2.take nq).map RunV.xs).flatten)) :: [dfrI Dm, vc 57 (.slice ad35 ((List.drop nq rs2) ++ ([⟨((sz : Nat) : Int), ad13, cp14, sortB Pt.lt (((rs2.take nq).map RunV.xs).flatten)⟩] : List RunV)).length cp36) ((List.drop nq rs2) ++ ([⟨((sz : Nat) : Int), ad13, cp14, sortB Pt.lt (((rs2.take nq).map RunV.xs).flatten)⟩] : List RunV)), blk b5 [I64 ((((sz * me) : Nat) : Int))] 3, blk b4 [.slice a0 xs.length c0] 55, blk b3 [.slice ad35 ((List.drop nq rs2) ++ ([⟨((sz : Nat) : Int), ad13, cp14, sortB Pt.lt (((rs2.take nq).map RunV.xs).flatten)⟩] : List RunV)).length cp36] 65, blk b2 [I64 (0), .slice none 0 0] 57, blk b1 [I64 (((sz : Nat) : Int))] 3]) (n := nq)) (Fit.perm (perm_run (A := [dfrI Dm, vc 57 (.slice ad35 ((List.drop nq rs2) ++ ([⟨((sz : Nat) : Int), ad13, cp14, sortB Pt.lt (((rs2.take nq).map RunV.xs).flatten)⟩] : List RunV)).length cp36) ((List.drop nq rs2) ++ ([⟨((sz : Nat) : Int), ad13, cp14, sortB Pt.lt (((rs2.take nq).map RunV.xs).flatten)⟩] : List RunV)), blk b5 [I64 ((((sz * me) : Nat) : Int))] 3, blk b4 [.slice a0 xs.length c0] 55, blk b3 [.slice ad35 ((List.drop nq rs2) ++ ([⟨((sz : Nat) : Int), ad13, cp14, sortB Pt.lt (((rs2.take nq).map RunV.xs).flatten)⟩] : List RunV)).length cp36] 65, blk b2 [I64 (0), .slice none 0 0] 57, blk b1 [I64 (((sz : Nat) : Int))] 3]) (rs := rs2.drop nq) (r := (⟨((sz : Nat) : Int), ad13, cp14, sortB Pt.lt (((rs2.take nq).map RunV.xs).flatten)⟩ : RunV)) (I := I))))))
           ·refine Step.eff rfl (Wanted.plain rfl) (Eff.bs (α := RunV) (cs := [_, _]) (xs := [⟨((sz : Nat) : Int), ad13, cp14, sortB Pt.lt (((rs2.take nq).map RunV.xs).flatten)⟩]) Try.underlying65 ty57 rfl rfl (by decide) (by decide) rfl rfl rfl rfl) ?_
            rintro _ _ ⟨ad37, rfl, rfl⟩
            refine ⟨Fit.sub, ?_⟩
            refine D.step (rs := [3]) (by kernel_rfl) rfl rfl (all1 ?_)
            refine Step.eff rfl (Wanted.plain rfl) (Eff.call call129 rfl rfl (CloneR (xs := List.drop nq rs2) (Sl.drop Sl.o (by omega)) (by rw [List.length_drop]; omega))) ?_
            rintro _ _ ⟨_, _, ⟨ad38, cp39, rfl, rfl⟩, rfl, rfl⟩
            refine ⟨Fit.sub, ?_⟩
            refine D.step (rs := [6]) (by kernel_rfl) rfl rfl (all1 ?_)
            refine Step.eff rfl (Wanted.plain rfl) (Eff.app (α := RunV) (e := 57) (xs := List.drop nq rs2) (ys := ([⟨((sz : Nat) : Int), ad13, cp14, sortB Pt.lt (((rs2.take nq).map RunV.xs).flatten)⟩] : List RunV)) Try.underlying65 ty57 rfl rfl rfl (by repeat (first | exact List.mem_cons_self | apply List.mem_cons_of_mem)) Sl.o (by simp only [List.length_cons, List.length_nil]; omega) (by decide) rfl (fun _ _ => (by repeat (first | exact At.head _ _ _ | apply At.tail)))) ?_
            rintro _ _ ⟨ad40, cp41, rfl, rfl⟩
            refine ⟨Fit.sub, ?_⟩
            refine D.stop (by kernel_rfl) ?_
            refine A.eff (i := 7) (by kernel_rfl) rfl (Wanted.plain rfl) (Eff.st (cs := [_]) (vs := [_]) (cs' := [_]) ty65) ?_
            rintro _ _ ⟨rfl, rfl⟩
            refine A.done (by kernel_rfl) ?_
            refine V.then ?_
            refine W.sub (L' := [(16, _), (2, _), (4, _), (6, _), (9, _), (13, _)]) (Sub.cons rfl (Sub.cons rfl (Sub.cons rfl (Sub.cons rfl (Sub.cons rfl (Sub.cons rfl Sub.nil)))))) ?_
            refine W.region ?_
            refine G.r (Runs.move rfl) ?_
            refine G.r (Runs.move rfl) ?_
            refine G.r (Runs.add rfl rfl (by unfold InR; omega)) ?_
            refine G.r (Runs.assign rfl) ?_
            refine G.nil ?_
            refine V.block_normal ?_
            exact V.next ((ad40), (cp41), ((List.drop nq rs2) ++ ([⟨((sz : Nat) : Int), ad13, cp14, sortB Pt.lt (((rs2.take nq).map RunV.xs).flatten)⟩] : List RunV)), (rd + ((readsL (List.take nq rs2) : Nat) : Int))) (show (Mrg xs ((sz : Nat) : Int) ((List.drop nq rs2) ++ ([⟨((sz : Nat) : Int), ad13, cp14, sortB Pt.lt (((rs2.take nq).map RunV.xs).flatten)⟩] : List RunV) : List RunV)) ∧ (0 ≤ (rd + ((readsL (List.take nq rs2) : Nat) : Int) : Int) ∧ (rd + ((readsL (List.take nq rs2) : Nat) : Int) : Int) + 1000 * (((List.drop nq rs2) ++ ([⟨((sz : Nat) : Int), ad13, cp14, sortB Pt.lt (((rs2.take nq).map RunV.xs).flatten)⟩] : List RunV) : List RunV).length : Int) ≤ 1001000) ∧ (xs.length ≤ sz * me → ((List.drop nq rs2) ++ ([⟨((sz : Nat) : Int), ad13, cp14, sortB Pt.lt (((rs2.take nq).map RunV.xs).flatten)⟩] : List RunV) : List RunV).length ≤ 1 ∧ (rd + ((readsL (List.take nq rs2) : Nat) : Int) : Int) = 0) from ⟨(hM.merge nq), (by simp only [List.length_append, List.length_drop, List.length_cons, List.length_nil]; omega), (fun h => by have := h1 h; omega)⟩) (show ((List.drop nq rs2) ++ ([⟨((sz : Nat) : Int), ad13, cp14, sortB Pt.lt (((rs2.take nq).map RunV.xs).flatten)⟩] : List RunV) : List RunV).length < rs2.length from (by simp only [List.length_append, List.length_drop, List.length_cons, List.length_nil]; omega)) (Sub.cons rfl (Sub.cons rfl (Sub.cons rfl (Sub.cons rfl (Sub.cons lookO Sub.nil))))) (show Fit κ _ (dfrI Dm :: vc 57 (.slice (ad40) ((List.drop nq rs2) ++ ([⟨((sz : Nat) : Int), ad13, cp14, sortB Pt.lt (((rs2.take nq).map RunV.xs).flatten)⟩] : List RunV)).length (cp41)) (((List.drop nq rs2) ++ ([⟨((sz : Nat) : Int), ad13, cp14, sortB Pt.lt (((rs2.take nq).map RunV.xs).flatten)⟩] : List RunV))) :: blk b5 [I64 ((((sz * me) : Nat) : Int))] 3 :: blk b4 [.slice a0 xs.length c0] 55 :: blk b3 [.slice (ad40) ((List.drop nq rs2) ++ ([⟨((sz : Nat) : Int), ad13, cp14, sortB Pt.lt (((rs2.take nq).map RunV.xs).flatten)⟩] : List RunV)).length (cp41)] 65 :: blk b2 [I64 (0), .slice none 0 0] 57 :: blk b1 [I64 (((sz : Nat) : Int))] 3 :: (runsI ((List.drop nq rs2) ++ ([⟨((sz : Nat) : Int), ad13, cp14, sortB Pt.lt (((rs2.take nq).map RunV.xs).flatten)⟩] : List RunV)) ++ I)) from (Fit.trans (show Fit κ _ (vc 60 (.slice ad13 (sortB Pt.lt (((rs2.take nq).map RunV.xs).flatten)).length cp14) (sortB Pt.lt (((rs2.take nq).map RunV.xs).flatten)) :: dfrI Dm :: vc 57 (.slice ad40 ((List.drop nq rs2) ++ ([⟨((sz : Nat) : Int), ad13, cp14, sortB Pt.lt (((rs2.take nq).map RunV.xs).flatten)⟩] : List RunV)).length cp41) ((List.drop nq rs2) ++ ([⟨((sz : Nat) : Int), ad13, cp14, sortB Pt.lt (((rs2.take nq).map RunV.xs).flatten)⟩] : List RunV)) :: blk b5 [I64 ((((sz * me) : Nat) : Int))] 3 :: blk b4 [.slice a0 xs.length c0] 55 :: blk b3 [.slice ad40 ((List.drop nq rs2) ++ ([⟨((sz : Nat) : Int), ad13, cp14, sortB Pt.lt (((rs2.take nq).map RunV.xs).flatten)⟩] : List RunV)).length cp41] 65 :: blk b2 [I64 (0), .slice none 0 0] 57 :: blk b1 [I64 (((sz : Nat) : Int))] 3 :: (runsI rs2 ++ I)) from (by first | exact Fit.s | exact Fit.sub)) (Fit.trans (runsI_drop (A := vc 60 (.slice ad13 (sortB Pt.lt (((rs2.take nq).map RunV.xs).flatten)).length cp14) (sortB Pt.lt (((rs2.take nq).map RunV.xs).flatten)) :: [dfrI Dm, vc 57 (.slice ad40 ((List.drop nq rs2) ++ ([⟨((sz : Nat) : Int), ad13, cp14, sortB Pt.lt (((rs2.take nq).map RunV.xs).flatten)⟩] : List RunV)).length cp41) ((List.drop nq rs2) ++ ([⟨((sz : Nat) : Int), ad13, cp14, sortB Pt.lt (((rs2.take nq).map RunV.xs).flatten)⟩] : List RunV)), blk b5 [I64 ((((sz * me) : Nat) : Int))] 3, blk b4 [.slice a0 xs.length c0] 55, blk b3 [.slice ad40 ((List.drop nq rs2) ++ ([⟨((sz : Nat) : Int), ad13, cp14, sortB Pt.lt (((rs2.take nq).map RunV.xs).flatten)⟩] : List RunV)).length cp41] 65, blk b2 [I64 (0), .slice none 0 0] 57, blk b1 [I64 (((sz : Nat) : Int))] 3]) (n := nq)) (Fit.perm (perm_run (A := [dfrI Dm, vc 57 (.slice ad40 ((List.drop nq rs2) ++ ([⟨((sz : Nat) : Int), ad13, cp14, sortB Pt.lt (((rs2.take nq).map RunV.xs).flatten)⟩] : List RunV)).length cp41) ((List.drop nq rs2) ++ ([⟨((sz : Nat) : Int), ad13, cp14, sortB Pt.lt (((rs2.take nq).map RunV.xs).flatten)⟩] : List RunV)), blk b5 [I64 ((((sz * me) : Nat) : Int))] 3, blk b4 [.slice a0 xs.length c0] 55, blk b3 [.slice ad40 ((List.drop nq rs2) ++ ([⟨((sz : Nat) : Int), ad13, cp14, sortB Pt.lt (((rs2.take nq).map RunV.xs).flatten)⟩] : List RunV)).length cp41] 65, blk b2 [I64 (0), .slice none 0 0] 57, blk b1 [I64 (((sz : Nat) : Int))] 3]) (rs := rs2.drop nq) (r := (⟨((sz : Nat) : Int), ad13, cp14, sortB Pt.lt (((rs2.take nq).map RunV.xs).flatten)⟩ : RunV)) (I := I))))))
          ·refine Step.eff rfl (Wanted.plain rfl) (Eff.bs (α := RunV) (cs := [_, _]) (xs := [⟨((sz : Nat) : Int), ad13, cp14, sortB Pt.lt (((rs2.take nq).map RunV.xs).flatten)⟩]) Try.underlying65 ty57 rfl rfl (by decide) (by decide) rfl rfl rfl rfl) ?_
           rintro _ _ ⟨ad42, rfl, rfl⟩
           refine ⟨Fit.sub, ?_⟩
           refine D.step (rs := [0]) (by kernel_rfl) rfl rfl (all1 ?_)
           refine Step.read rfl (Wanted.plain rfl) rfl rfl (Runs.ld ty65) Fit.sub ?_
           refine D.r 2 rfl (Runs.lo (α := RunV) (xs := rs2) (l := nq) Try.underlying65 ty57 rfl rfl (by omega) Sl.o (by omega)) ?_ (hJ := Fit.sub)
           refine D.step (rs := [3]) (by kernel_rfl) rfl rfl (all1 ?_)
           refine Step.eff rfl (Wanted.plain rfl) (Eff.call call129 rfl rfl (CloneR (xs := List.drop nq rs2) (Sl.drop Sl.o (by omega)) (by rw [List.length_drop]; omega))) ?_
           rintro _ _ ⟨_, _, ⟨ad43, cp44, rfl, rfl⟩, rfl, rfl⟩
           refine ⟨Fit.sub, ?_⟩
           refine D.step (rs := [6]) (by kernel_rfl) rfl rfl (all1 ?_)
           refine Step.eff rfl (Wanted.plain rfl) (Eff.app (α := RunV) (e := 57) (xs := List.drop nq rs2) (ys := ([⟨((sz : Nat) : Int), ad13, cp14, sortB Pt.lt (((rs2.take nq).map RunV.xs).flatten)⟩] : List RunV)) Try.underlying65 ty57 rfl rfl rfl (by repeat (first | exact List.mem_cons_self | apply List.mem_cons_of_mem)) Sl.o (by simp only [List.length_cons, List.length_nil]; omega) (by decide) rfl (fun _ _ => (by repeat (first | exact At.head _ _ _ | apply At.tail)))) ?_
           rintro _ _ ⟨ad45, cp46, rfl, rfl⟩
           refine ⟨Fit.sub, ?_⟩
           refine D.stop (by kernel_rfl) ?_
           refine A.eff (i := 7) (by kernel_rfl) rfl (Wanted.plain rfl) (Eff.st (cs := [_]) (vs := [_]) (cs' := [_]) ty65) ?_
           rintro _ _ ⟨rfl, rfl⟩
           refine A.done (by kernel_rfl) ?_
           refine V.then ?_
           refine W.sub (L' := [(16, _), (2, _), (4, _), (6, _), (9, _), (13, _)]) (Sub.cons rfl (Sub.cons rfl (Sub.cons rfl (Sub.cons rfl (Sub.cons rfl (Sub.cons rfl Sub.nil)))))) ?_
           refine W.region ?_
           refine G.r (Runs.move rfl) ?_
           refine G.r (Runs.move rfl) ?_
           refine G.r (Runs.add rfl rfl (by unfold InR; omega)) ?_
           refine G.r (Runs.assign rfl) ?_
           refine G.nil ?_
           refine V.block_normal ?_
           exact V.next ((ad45), (cp46), ((List.drop nq rs2) ++ ([⟨((sz : Nat) : Int), ad13, cp14, sortB Pt.lt (((rs2.take nq).map RunV.xs).flatten)⟩] : List RunV)), (rd + ((readsL (List.take nq rs2) : Nat) : Int))) (show (Mrg xs ((sz : Nat) : Int) ((List.drop nq rs2) ++ ([⟨((sz : Nat) : Int), ad13, cp14, sortB Pt.lt (((rs2.take nq).map RunV.xs).flatten)⟩] : List RunV) : List RunV)) ∧ (0 ≤ (rd + ((readsL (List.take nq rs2) : Nat) : Int) : Int) ∧ (rd + ((readsL (List.take nq rs2) : Nat) : Int) : Int) + 1000 * (((List.drop nq rs2) ++ ([⟨((sz : Nat) : Int), ad13, cp14, sortB Pt.lt (((rs2.take nq).map RunV.xs).flatten)⟩] : List RunV) : List RunV).length : Int) ≤ 1001000) ∧ (xs.length ≤ sz * me → ((List.drop nq rs2) ++ ([⟨((sz : Nat) : Int), ad13, cp14, sortB Pt.lt (((rs2.take nq).map RunV.xs).flatten)⟩] : List RunV) : List RunV).length ≤ 1 ∧ (rd + ((readsL (List.take nq rs2) : Nat) : Int) : Int) = 0) from ⟨(hM.merge nq), (by simp only [List.length_append, List.length_drop, List.length_cons, List.length_nil]; omega), (fun h => by have := h1 h; omega)⟩) (show ((List.drop nq rs2) ++ ([⟨((sz : Nat) : Int), ad13, cp14, sortB Pt.lt (((rs2.take nq).map RunV.xs).flatten)⟩] : List RunV) : List RunV).length < rs2.length from (by simp only [List.length_append, List.length_drop, List.length_cons, List.length_nil]; omega)) (Sub.cons rfl (Sub.cons rfl (Sub.cons rfl (Sub.cons rfl (Sub.cons lookO Sub.nil))))) (show Fit κ _ (dfrI Dm :: vc 57 (.slice (ad45) ((List.drop nq rs2) ++ ([⟨((sz : Nat) : Int), ad13, cp14, sortB Pt.lt (((rs2.take nq).map RunV.xs).flatten)⟩] : List RunV)).length (cp46)) (((List.drop nq rs2) ++ ([⟨((sz : Nat) : Int), ad13, cp14, sortB Pt.lt (((rs2.take nq).map RunV.xs).flatten)⟩] : List RunV))) :: blk b5 [I64 ((((sz * me) : Nat) : Int))] 3 :: blk b4 [.slice a0 xs.length c0] 55 :: blk b3 [.slice (ad45) ((List.drop nq rs2) ++ ([⟨((sz : Nat) : Int), ad13, cp14, sortB Pt.lt (((rs2.take nq).map RunV.xs).flatten)⟩] : List RunV)).length (cp46)] 65 :: blk b2 [I64 (0), .slice none 0 0] 57 :: blk b1 [I64 (((sz : Nat) : Int))] 3 :: (runsI ((List.drop nq rs2) ++ ([⟨((sz : Nat) : Int), ad13, cp14, sortB Pt.lt (((rs2.take nq).map RunV.xs).flatten)⟩] : List RunV)) ++ I)) from (Fit.trans (show Fit κ _ (vc 60 (.slice ad13 (sortB Pt.lt (((rs2.take nq).map RunV.xs).flatten)).length cp14) (sortB Pt.lt (((rs2.take nq).map RunV.xs).flatten)) :: dfrI Dm :: vc 57 (.slice ad45 ((List.drop nq rs2) ++ ([⟨((sz : Nat) : Int), ad13, cp14, sortB Pt.lt (((rs2.take nq).map RunV.xs).flatten)⟩] : List RunV)).length cp46) ((List.drop nq rs2) ++ ([⟨((sz : Nat) : Int), ad13, cp14, sortB Pt.lt (((rs2.take nq).map RunV.xs).flatten)⟩] : List RunV)) :: blk b5 [I64 ((((sz * me) : Nat) : Int))] 3 :: blk b4 [.slice a0 xs.length c0] 55 :: blk b3 [.slice ad45 ((List.drop nq rs2) ++ ([⟨((sz : Nat) : Int), ad13, cp14, sortB Pt.lt (((rs2.take nq).map RunV.xs).flatten)⟩] : List RunV)).length cp46] 65 :: blk b2 [I64 (0), .slice none 0 0] 57 :: blk b1 [I64 (((sz : Nat) : Int))] 3 :: (runsI rs2 ++ I)) from (by first | exact Fit.s | exact Fit.sub)) (Fit.trans (runsI_drop (A := vc 60 (.slice ad13 (sortB Pt.lt (((rs2.take nq).map RunV.xs).flatten)).length cp14) (sortB Pt.lt (((rs2.take nq).map RunV.xs).flatten)) :: [dfrI Dm, vc 57 (.slice ad45 ((List.drop nq rs2) ++ ([⟨((sz : Nat) : Int), ad13, cp14, sortB Pt.lt (((rs2.take nq).map RunV.xs).flatten)⟩] : List RunV)).length cp46) ((List.drop nq rs2) ++ ([⟨((sz : Nat) : Int), ad13, cp14, sortB Pt.lt (((rs2.take nq).map RunV.xs).flatten)⟩] : List RunV)), blk b5 [I64 ((((sz * me) : Nat) : Int))] 3, blk b4 [.slice a0 xs.length c0] 55, blk b3 [.slice ad45 ((List.drop nq rs2) ++ ([⟨((sz : Nat) : Int), ad13, cp14, sortB Pt.lt (((rs2.take nq).map RunV.xs).flatten)⟩] : List RunV)).length cp46] 65, blk b2 [I64 (0), .slice none 0 0] 57, blk b1 [I64 (((sz : Nat) : Int))] 3]) (n := nq)) (Fit.perm (perm_run (A := [dfrI Dm, vc 57 (.slice ad45 ((List.drop nq rs2) ++ ([⟨((sz : Nat) : Int), ad13, cp14, sortB Pt.lt (((rs2.take nq).map RunV.xs).flatten)⟩] : List RunV)).length cp46) ((List.drop nq rs2) ++ ([⟨((sz : Nat) : Int), ad13, cp14, sortB Pt.lt (((rs2.take nq).map RunV.xs).flatten)⟩] : List RunV)), blk b5 [I64 ((((sz * me) : Nat) : Int))] 3, blk b4 [.slice a0 xs.length c0] 55, blk b3 [.slice ad45 ((List.drop nq rs2) ++ ([⟨((sz : Nat) : Int), ad13, cp14, sortB Pt.lt (((rs2.take nq).map RunV.xs).flatten)⟩] : List RunV)).length cp46] 65, blk b2 [I64 (0), .slice none 0 0] 57, blk b1 [I64 (((sz : Nat) : Int))] 3]) (rs := rs2.drop nq) (r := (⟨((sz : Nat) : Int), ad13, cp14, sortB Pt.lt (((rs2.take nq).map RunV.xs).flatten)⟩ : RunV)) (I := I))))))
         ·refine Step.eff rfl (Wanted.plain rfl) (Eff.st (cs := [_, _]) (vs := [_, _]) (cs' := [_, _]) ty57) ?_
          rintro _ _ ⟨rfl, rfl⟩
          refine ⟨Fit.m, ?_⟩
          refine D.step (rs := [7]) (by kernel_rfl) rfl rfl (all1 ?_)
          refine Step.read rfl (Wanted.plain rfl) rfl rfl (Runs.extract rfl rfl) Fit.m ?_
          refine D.step (rs := [10]) (by kernel_rfl) rfl rfl (all1 ?_)
          refine Step.read rfl (Wanted.plain rfl) rfl rfl (Runs.assign rfl) Fit.m ?_
          refine D.done (by kernel_rfl) ?_
          refine V.then ?_
          refine W.sub (L' := [(16, _), (15, _), (14, _), (2, _), (4, _), (6, _), (9, _), (13, _)]) (Sub.cons rfl (Sub.cons rfl (Sub.cons rfl (Sub.cons rfl (Sub.cons rfl (Sub.cons rfl (Sub.cons rfl (Sub.cons rfl Sub.nil)))))))) ?_
          refine W.seq ?_
          refine W.drawn mixed ?_
          refine A.hold (blk b31 [I64 (((sz : Nat) : Int)), .slice ad13 (sortB Pt.lt (((rs2.take nq).map RunV.xs).flatten)).length cp14] 57 :: vc 60 (.slice ad13 (sortB Pt.lt (((rs2.take nq).map RunV.xs).flatten)).length cp14) (sortB Pt.lt (((rs2.take nq).map RunV.xs).flatten)) :: dfrI Dm :: vc 57 (.slice a2 rs2.length c2) (rs2) :: blk b5 [I64 ((((sz * me) : Nat) : Int))] 3 :: blk b4 [.slice a0 xs.length c0] 55 :: blk b2 [I64 (0), .slice none 0 0] 57 :: blk b1 [I64 (((sz : Nat) : Int))] 3 :: (runsI rs2 ++ I)) 7 ?_
          refine D.r 1 rfl (Runs.move rfl) ?_ (hJ := Fit.sub)
          refine D.r 4 rfl (Runs.lds (vs := [_, _]) ty57) ?_ (hJ := Fit.sub)
          refine D.step (rs := [0, 5]) (by kernel_rfl) rfl rfl (all2 ?_ (all1 ?_))
          ·refine Step.read rfl (Wanted.plain rfl) rfl rfl (Runs.ld ty65) Fit.sub ?_
           refine D.r 2 rfl (Runs.lo (α := RunV) (xs := rs2) (l := nq) Try.underlying65 ty57 rfl rfl (by omega) Sl.o (by omega)) ?_ (hJ := Fit.sub)
           refine D.step (rs := [3, 5]) (by kernel_rfl) rfl rfl (all2 ?_ (all1 ?_))
           ·refine Step.eff rfl (Wanted.plain rfl) (Eff.call call129 rfl rfl (CloneR (xs := List.drop nq rs2) (Sl.drop Sl.o (by omega)) (by rw [List.length_drop]; omega))) ?_
            rintro _ _ ⟨_, _, ⟨ad47, cp48, rfl, rfl⟩, rfl, rfl⟩
            refine ⟨Fit.sub, ?_⟩
            refine D.step (rs := [5]) (by kernel_rfl) rfl rfl (all1 ?_)
            refine Step.eff rfl (Wanted.plain rfl) (Eff.bs (α := RunV) (cs := [_, _]) (xs := [⟨((sz : Nat) : Int), ad13, cp14, sortB Pt.lt (((rs2.take nq).map RunV.xs).flatten)⟩]) Try.underlying65 ty57 rfl rfl (by decide) (by decide) rfl rfl rfl rfl) ?_
            rintro _ _ ⟨ad49, rfl, rfl⟩
            refine ⟨Fit.sub, ?_⟩
            refine D.step (rs := [6]) (by kernel_rfl) rfl rfl (all1 ?_)
            refine Step.eff rfl (Wanted.plain rfl) (Eff.app (α := RunV) (e := 57) (xs := List.drop nq rs2) (ys := ([⟨((sz : Nat) : Int), ad13, cp14, sortB Pt.lt (((rs2.take nq).map RunV.xs).flatten)⟩] : List RunV)) Try.underlying65 ty57 rfl rfl rfl (by repeat (first | exact List.mem_cons_self | apply List.mem_cons_of_mem)) Sl.o (by simp only [List.length_cons, List.length_nil]; omega) (by decide) rfl (fun _ _ => (by repeat (first | exact At.head _ _ _ | apply At.tail)))) ?_
            rintro _ _ ⟨ad50, cp51, rfl, rfl⟩
            refine ⟨Fit.sub, ?_⟩
            refine D.stop (by kernel_rfl) ?_
            refine A.eff (i := 7) (by kernel_rfl) rfl (Wanted.plain rfl) (Eff.st (cs := [_]) (vs := [_]) (cs' := [_]) ty65) ?_
            rintro _ _ ⟨rfl, rfl⟩
            refine A.done (by kernel_rfl) ?_
            refine V.then ?_
            refine W.sub (L' := [(16, _), (2, _), (4, _), (6, _), (9, _), (13, _)]) (Sub.cons rfl (Sub.cons rfl (Sub.cons rfl (Sub.cons rfl (Sub.cons rfl (Sub.cons rfl Sub.nil)))))) ?_
            refine W.region ?_
            refine G.r (Runs.move rfl) ?_
            refine G.r (Runs.move rfl) ?_
            refine G.r (Runs.add rfl rfl (by unfold InR; omega)) ?_
            refine G.r (Runs.assign rfl) ?_
            refine G.nil ?_
            refine V.block_normal ?_
            exact V.next ((ad50), (cp51), ((List.drop nq rs2) ++ ([⟨((sz : Nat) : Int), ad13, cp14, sortB Pt.lt (((rs2.take nq).map RunV.xs).flatten)⟩] : List RunV)), (rd + ((readsL (List.take nq rs2) : Nat) : Int))) (show (Mrg xs ((sz : Nat) : Int) ((List.drop nq rs2) ++ ([⟨((sz : Nat) : Int), ad13, cp14, sortB Pt.lt (((rs2.take nq).map RunV.xs).flatten)⟩] : List RunV) : List RunV)) ∧ (0 ≤ (rd + ((readsL (List.take nq rs2) : Nat) : Int) : Int) ∧ (rd + ((readsL (List.take nq rs2) : Nat) : Int) : Int) + 1000 * (((List.drop nq rs2) ++ ([⟨((sz : Nat) : Int), ad13, cp14, sortB Pt.lt (((rs2.take nq).map RunV.xs).flatten)⟩] : List RunV) : List RunV).length : Int) ≤ 1001000) ∧ (xs.length ≤ sz * me → ((List.drop nq rs2) ++ ([⟨((sz : Nat) : Int), ad13, cp14, sortB Pt.lt (((rs2.take nq).map RunV.xs).flatten)⟩] : List RunV) : List RunV).length ≤ 1 ∧ (rd + ((readsL (List.take nq rs2) : Nat) : Int) : Int) = 0) from ⟨(hM.merge nq), (by simp only [List.length_append, List.length_drop, List.length_cons, List.length_nil]; omega), (fun h => by have := h1 h; omega)⟩) (show ((List.drop nq rs2) ++ ([⟨((sz : Nat) : Int), ad13, cp14, sortB Pt.lt (((rs2.take nq).map RunV.xs).flatten)⟩] : List RunV) : List RunV).length < rs2.length from (by simp only [List.length_append, List.length_drop, List.length_cons, List.length_nil]; omega)) (Sub.cons rfl (Sub.cons rfl (Sub.cons rfl (Sub.cons rfl (Sub.cons lookO Sub.nil))))) (show Fit κ _ (dfrI Dm :: vc 57 (.slice (ad50) ((List.drop nq rs2) ++ ([⟨((sz : Nat) : Int), ad13, cp14, sortB Pt.lt (((rs2.take nq).map RunV.xs).flatten)⟩] : List RunV)).length (cp51)) (((List.drop nq rs2) ++ ([⟨((sz : Nat) : Int), ad13, cp14, sortB Pt.lt (((rs2.take nq).map RunV.xs).flatten)⟩] : List RunV))) :: blk b5 [I64 ((((sz * me) : Nat) : Int))] 3 :: blk b4 [.slice a0 xs.length c0] 55 :: blk b3 [.slice (ad50) ((List.drop nq rs2) ++ ([⟨((sz : Nat) : Int), ad13, cp14, sortB Pt.lt (((rs2.take nq).map RunV.xs).flatten)⟩] : List RunV)).length (cp51)] 65 :: blk b2 [I64 (0), .slice none 0 0] 57 :: blk b1 [I64 (((sz : Nat) : Int))] 3 :: (runsI ((List.drop nq rs2) ++ ([⟨((sz : Nat) : Int), ad13, cp14, sortB Pt.lt (((rs2.take nq).map RunV.xs).flatten)⟩] : List RunV)) ++ I)) from (Fit.trans (show Fit κ _ (vc 60 (.slice ad13 (sortB Pt.lt (((rs2.take nq).map RunV.xs).flatten)).length cp14) (sortB Pt.lt (((rs2.take nq).map RunV.xs).flatten)) :: dfrI Dm :: vc 57 (.slice ad50 ((List.drop nq rs2) ++ ([⟨((sz : Nat) : Int), ad13, cp14, sortB Pt.lt (((rs2.take nq).map RunV.xs).flatten)⟩] : List RunV)).length cp51) ((List.drop nq rs2) ++ ([⟨((sz : Nat) : Int), ad13, cp14, sortB Pt.lt (((rs2.take nq).map RunV.xs).flatten)⟩] : List RunV)) :: blk b5 [I64 ((((sz * me) : Nat) : Int))] 3 :: blk b4 [.slice a0 xs.length c0] 55 :: blk b3 [.slice ad50 ((List.drop nq rs2) ++ ([⟨((sz : Nat) : Int), ad13, cp14, sortB Pt.lt (((rs2.take nq).map RunV.xs).flatten)⟩] : List RunV)).length cp51] 65 :: blk b2 [I64 (0), .slice none 0 0] 57 :: blk b1 [I64 (((sz : Nat) : Int))] 3 :: (runsI rs2 ++ I)) from (by first | exact Fit.s | exact Fit.sub)) (Fit.trans (runsI_drop (A := vc 60 (.slice ad13 (sortB Pt.lt (((rs2.take nq).map RunV.xs).flatten)).length cp14) (sortB Pt.lt (((rs2.take nq).map RunV.xs).flatten)) :: [dfrI Dm, vc 57 (.slice ad50 ((List.drop nq rs2) ++ ([⟨((sz : Nat) : Int), ad13, cp14, sortB Pt.lt (((rs2.take nq).map RunV.xs).flatten)⟩] : List RunV)).length cp51) ((List.drop nq rs2) ++ ([⟨((sz : Nat) : Int), ad13, cp14, sortB Pt.lt (((rs2.take nq).map RunV.xs).flatten)⟩] : List RunV)), blk b5 [I64 ((((sz * me) : Nat) : Int))] 3, blk b4 [.slice a0 xs.length c0] 55, blk b3 [.slice ad50 ((List.drop nq rs2) ++ ([⟨((sz : Nat) : Int), ad13, cp14, sortB Pt.lt (((rs2.take nq).map RunV.xs).flatten)⟩] : List RunV)).length cp51] 65, blk b2 [I64 (0), .slice none 0 0] 57, blk b1 [I64 (((sz : Nat) : Int))] 3]) (n := nq)) (Fit.perm (perm_run (A := [dfrI Dm, vc 57 (.slice ad50 ((List.drop nq rs2) ++ ([⟨((sz : Nat) : Int), ad13, cp14, sortB Pt.lt (((rs2.take nq).map RunV.xs).flatten)⟩] : List RunV)).length cp51) ((List.drop nq rs2) ++ ([⟨((sz : Nat) : Int), ad13, cp14, sortB Pt.lt (((rs2.take nq).map RunV.xs).flatten)⟩] : List RunV)), blk b5 [I64 ((((sz * me) : Nat) : Int))] 3, blk b4 [.slice a0 xs.length c0] 55, blk b3 [.slice ad50 ((List.drop nq rs2) ++ ([⟨((sz : Nat) : Int), ad13, cp14, sortB Pt.lt (((rs2.take nq).map RunV.xs).flatten)⟩] : List RunV)).length cp51] 65, blk b2 [I64 (0), .slice none 0 0] 57, blk b1 [I64 (((sz : Nat) : Int))] 3]) (rs := rs2.drop nq) (r := (⟨((sz : Nat) : Int), ad13, cp14, sortB Pt.lt (((rs2.take nq).map RunV.xs).flatten)⟩ : RunV)) (I := I))))))
           ·refine Step.eff rfl (Wanted.plain rfl) (Eff.bs (α := RunV) (cs := [_, _]) (xs := [⟨((sz : Nat) : Int), ad13, cp14, sortB Pt.lt (((rs2.take nq).map RunV.xs).flatten)⟩]) Try.underlying65 ty57 rfl rfl (by decide) (by decide) rfl rfl rfl rfl) ?_
            rintro _ _ ⟨ad52, rfl, rfl⟩
            refine ⟨Fit.sub, ?_⟩
            refine D.step (rs := [3]) (by kernel_rfl) rfl rfl (all1 ?_)
            refine Step.eff rfl (Wanted.plain rfl) (Eff.call call129 rfl rfl (CloneR (xs := List.drop nq rs2) (Sl.drop Sl.o (by omega)) (by rw [List.length_drop]; omega))) ?_
            rintro _ _ ⟨_, _, ⟨ad53, cp54, rfl, rfl⟩, rfl, rfl⟩
            refine ⟨Fit.sub, ?_⟩
            refine D.step (rs := [6]) (by kernel_rfl) rfl rfl (all1 ?_)
            refine Step.eff rfl (Wanted.plain rfl) (Eff.app (α := RunV) (e := 57) (xs := List.drop nq rs2) (ys := ([⟨((sz : Nat) : Int), ad13, cp14, sortB Pt.lt (((rs2.take nq).map RunV.xs).flatten)⟩] : List RunV)) Try.underlying65 ty57 rfl rfl rfl (by repeat (first | exact List.mem_cons_self | apply List.mem_cons_of_mem)) Sl.o (by simp only [List.length_cons, List.length_nil]; omega) (by decide) rfl (fun _ _ => (by repeat (first | exact At.head _ _ _ | apply At.tail)))) ?_
            rintro _ _ ⟨ad55, cp56, rfl, rfl⟩
            refine ⟨Fit.sub, ?_⟩
            refine D.stop (by kernel_rfl) ?_
            refine A.eff (i := 7) (by kernel_rfl) rfl (Wanted.plain rfl) (Eff.st (cs := [_]) (vs := [_]) (cs' := [_]) ty65) ?_
            rintro _ _ ⟨rfl, rfl⟩
            refine A.done (by kernel_rfl) ?_
            refine V.then ?_
            refine W.sub (L' := [(16, _), (2, _), (4, _), (6, _), (9, _), (13, _)]) (Sub.cons rfl (Sub.cons rfl (Sub.cons rfl (Sub.cons rfl (Sub.cons rfl (Sub.cons rfl Sub.nil)))))) ?_
            refine W.region ?_
            refine G.r (Runs.move rfl) ?_
            refine G.r (Runs.move rfl) ?_
            refine G.r (Runs.add rfl rfl (by unfold InR; omega)) ?_
            refine G.r (Runs.assign rfl) ?_
            refine G.nil ?_
            refine V.block_normal ?_
            exact V.next ((ad55), (cp56), ((List.drop nq rs2) ++ ([⟨((sz : Nat) : Int), ad13, cp14, sortB Pt.lt (((rs2.take nq).map RunV.xs).flatten)⟩] : List RunV)), (rd + ((readsL (List.take nq rs2) : Nat) : Int))) (show (Mrg xs ((sz : Nat) : Int) ((List.drop nq rs2) ++ ([⟨((sz : Nat) : Int), ad13, cp14, sortB Pt.lt (((rs2.take nq).map RunV.xs).flatten)⟩] : List RunV) : List RunV)) ∧ (0 ≤ (rd + ((readsL (List.take nq rs2) : Nat) : Int) : Int) ∧ (rd + ((readsL (List.take nq rs2) : Nat) : Int) : Int) + 1000 * (((List.drop nq rs2) ++ ([⟨((sz : Nat) : Int), ad13, cp14, sortB Pt.lt (((rs2.take nq).map RunV.xs).flatten)⟩] : List RunV) : List RunV).length : Int) ≤ 1001000) ∧ (xs.length ≤ sz * me → ((List.drop nq rs2) ++ ([⟨((sz : Nat) : Int), ad13, cp14, sortB Pt.lt (((rs2.take nq).map RunV.xs).flatten)⟩] : List RunV) : List RunV).length ≤ 1 ∧ (rd + ((readsL (List.take nq rs2) : Nat) : Int) : Int) = 0) from ⟨(hM.merge nq), (by simp only [List.length_append, List.length_drop, List.length_cons, List.length_nil]; omega), (fun h => by have := h1 h; omega)⟩) (show ((List.drop nq rs2) ++ ([⟨((sz : Nat) : Int), ad13, cp14, sortB Pt.lt (((rs2.take nq).map RunV.xs).flatten)⟩] : List RunV) : List RunV).length < rs2.length from (by simp only [List.length_append, List.length_drop, List.length_cons, List.length_nil]; omega)) (Sub.cons rfl (Sub.cons rfl (Sub.cons rfl (Sub.cons rfl (Sub.cons lookO Sub.nil))))) (show Fit κ _ (dfrI Dm :: vc 57 (.slice (ad55) ((List.drop nq rs2) ++ ([⟨((sz : Nat) : Int), ad13, cp14, sortB Pt.lt (((rs2.take nq).map RunV.xs).flatten)⟩] : List RunV)).length (cp56)) (((List.drop nq rs2) ++ ([⟨((sz : Nat) : Int), ad13, cp14, sortB Pt.lt (((rs2.take nq).map RunV.xs).flatten)⟩] : List RunV))) :: blk b5 [I64 ((((sz * me) : Nat) : Int))] 3 :: blk b4 [.slice a0 xs.length c0] 55 :: blk b3 [.slice (ad55) ((List.drop nq rs2) ++ ([⟨((sz : Nat) : Int), ad13, cp14, sortB Pt.lt (((rs2.take nq).map RunV.xs).flatten)⟩] : List RunV)).length (cp56)] 65 :: blk b2 [I64 (0), .slice none 0 0] 57 :: blk b1 [I64 (((sz : Nat) : Int))] 3 :: (runsI ((List.drop nq rs2) ++ ([⟨((sz : Nat) : Int), ad13, cp14, sortB Pt.lt (((rs2.take nq).map RunV.xs).flatten)⟩] : List RunV)) ++ I)) from (Fit.trans (show Fit κ _ (vc 60 (.slice ad13 (sortB Pt.lt (((rs2.take nq).map RunV.xs).flatten)).length cp14) (sortB Pt.lt (((rs2.take nq).map RunV.xs).flatten)) :: dfrI Dm :: vc 57 (.slice ad55 ((List.drop nq rs2) ++ ([⟨((sz : Nat) : Int), ad13, cp14, sortB Pt.lt (((rs2.take nq).map RunV.xs).flatten)⟩] : List RunV)).length cp56) ((List.drop nq rs2) ++ ([⟨((sz : Nat) : Int), ad13, cp14, sortB Pt.lt (((rs2.take nq).map RunV.xs).flatten)⟩] : List RunV)) :: blk b5 [I64 ((((sz * me) : Nat) : Int))] 3 :: blk b4 [.slice a0 xs.length c0] 55 :: blk b3 [.slice ad55 ((List.drop nq rs2) ++ ([⟨((sz : Nat) : Int), ad13, cp14, sortB Pt.lt (((rs2.take nq).map RunV.xs).flatten)⟩] : List RunV)).length cp56] 65 :: blk b2 [I64 (0), .slice none 0 0] 57 :: blk b1 [I64 (((sz : Nat) : Int))] 3 :: (runsI rs2 ++ I)) from (by first | exact Fit.s | exact Fit.sub)) (Fit.trans (runsI_drop (A := vc 60 (.slice ad13 (sortB Pt.lt (((rs2.take nq).map RunV.xs).flatten)).length cp14) (sortB Pt.lt (((rs2.take nq).map RunV.xs).flatten)) :: [dfrI Dm, vc 57 (.slice ad55 ((List.drop nq rs2) ++ ([⟨((sz : Nat) : Int), ad13, cp14, sortB Pt.lt (((rs2.take nq).map RunV.xs).flatten)⟩] : List RunV)).length cp56) ((List.drop nq rs2) ++ ([⟨((sz : Nat) : Int), ad13, cp14, sortB Pt.lt (((rs2.take nq).map RunV.xs).flatten)⟩] : List RunV)), blk b5 [I64 ((((sz * me) : Nat) : Int))] 3, blk b4 [.slice a0 xs.length c0] 55, blk b3 [.slice ad55 ((List.drop nq rs2) ++ ([⟨((sz : Nat) : Int), ad13, cp14, sortB Pt.lt (((rs2.take nq).map RunV.xs).flatten)⟩] : List RunV)).length cp56] 65, blk b2 [I64 (0), .slice none 0 0] 57, blk b1 [I64 (((sz : Nat) : Int))] 3]) (n := nq)) (Fit.perm (perm_run (A := [dfrI Dm, vc 57 (.slice ad55 ((List.drop nq rs2) ++ ([⟨((sz : Nat) : Int), ad13, cp14, sortB Pt.lt (((rs2.take nq).map RunV.xs).flatten)⟩] : List RunV)).length cp56) ((List.drop nq rs2) ++ ([⟨((sz : Nat) : Int), ad13, cp14, sortB Pt.lt (((rs2.take nq).map RunV.xs).flatten)⟩] : List RunV)), blk b5 [I64 ((((sz * me) : Nat) : Int))] 3, blk b4 [.slice a0 xs.length c0] 55, blk b3 [.slice ad55 ((List.drop nq rs2) ++ ([⟨((sz : Nat) : Int), ad13, cp14, sortB Pt.lt (((rs2.take nq).map RunV.xs).flatten)⟩] : List RunV)).length cp56] 65, blk b2 [I64 (0), .slice none 0 0] 57, blk b1 [I64 (((sz : Nat) : Int))] 3]) (rs := rs2.drop nq) (r := (⟨((sz : Nat) : Int), ad13, cp14, sortB Pt.lt (((rs2.take nq).map RunV.xs).flatten)⟩ : RunV)) (I := I))))))
          ·refine Step.eff rfl (Wanted.plain rfl) (Eff.bs (α := RunV) (cs := [_, _]) (xs := [⟨((sz : Nat) : Int), ad13, cp14, sortB Pt.lt (((rs2.take nq).map RunV.xs).flatten)⟩]) Try.underlying65 ty57 rfl rfl (by decide) (by decide) rfl rfl rfl rfl) ?_
           rintro _ _ ⟨ad57, rfl, rfl⟩
           refine ⟨Fit.sub, ?_⟩
           refine D.step (rs := [0]) (by kernel_rfl) rfl rfl (all1 ?_)
           refine Step.read rfl (Wanted.plain rfl) rfl rfl (Runs.ld ty65) Fit.sub ?_
           refine D.r 2 rfl (Runs.lo (α := RunV) (xs := rs2) (l := nq) Try.underlying65 ty57 rfl rfl (by omega) Sl.o (by omega)) ?_ (hJ := Fit.sub)
           refine D.step (rs := [3]) (by kernel_rfl) rfl rfl (all1 ?_)
           refine Step.eff rfl (Wanted.plain rfl) (Eff.call call129 rfl rfl (CloneR (xs := List.drop nq rs2) (Sl.drop Sl.o (by omega)) (by rw [List.length_drop]; omega))) ?_
           rintro _ _ ⟨_, _, ⟨ad58, cp59, rfl, rfl⟩, rfl, rfl⟩
           refine ⟨Fit.sub, ?_⟩
           refine D.step (rs := [6]) (by kernel_rfl) rfl rfl (all1 ?_)
           refine Step.eff rfl (Wanted.plain rfl) (Eff.app (α := RunV) (e := 57) (xs := List.drop nq rs2) (ys := ([⟨((sz : Nat) : Int), ad13, cp14, sortB Pt.lt (((rs2.take nq).map RunV.xs).flatten)⟩] : List RunV)) Try.underlying65 ty57 rfl rfl rfl (by repeat (first | exact List.mem_cons_self | apply List.mem_cons_of_mem)) Sl.o (by simp only [List.length_cons, List.length_nil]; omega) (by decide) rfl (fun _ _ => (by repeat (first | exact At.head _ _ _ | apply At.tail)))) ?_
           rintro _ _ ⟨ad60, cp61, rfl, rfl⟩
           refine ⟨Fit.sub, ?_⟩
           refine D.stop (by kernel_rfl) ?_
           refine A.eff (i := 7) (by kernel_rfl) rfl (Wanted.plain rfl) (Eff.st (cs := [_]) (vs := [_]) (cs' := [_]) ty65) ?_
           rintro _ _ ⟨rfl, rfl⟩
           refine A.done (by kernel_rfl) ?_
           refine V.then ?_
           refine W.sub (L' := [(16, _), (2, _), (4, _), (6, _), (9, _), (13, _)]) (Sub.cons rfl (Sub.cons rfl (Sub.cons rfl (Sub.cons rfl (Sub.cons rfl (Sub.cons rfl Sub.nil)))))) ?_
           refine W.region ?_
           refine G.r (Runs.move rfl) ?_
           refine G.r (Runs.move rfl) ?_
           refine G.r (Runs.add rfl rfl (by unfold InR; omega)) ?_
           refine G.r (Runs.assign rfl) ?_
           refine G.nil ?_
           refine V.block_normal ?_
           exact V.next ((ad60), (cp61), ((List.drop nq rs2) ++ ([⟨((sz : Nat) : Int), ad13, cp14, sortB Pt.lt (((rs2.take nq).map RunV.xs).flatten)⟩] : List RunV)), (rd + ((readsL (List.take nq rs2) : Nat) : Int))) (show (Mrg xs ((sz : Nat) : Int) ((List.drop nq rs2) ++ ([⟨((sz : Nat) : Int), ad13, cp14, sortB Pt.lt (((rs2.take nq).map RunV.xs).flatten)⟩] : List RunV) : List RunV)) ∧ (0 ≤ (rd + ((readsL (List.take nq rs2) : Nat) : Int) : Int) ∧ (rd + ((readsL (List.take nq rs2) : Nat) : Int) : Int) + 1000 * (((List.drop nq rs2) ++ ([⟨((sz : Nat) : Int), ad13, cp14, sortB Pt.lt (((rs2.take nq).map RunV.xs).flatten)⟩] : List RunV) : List RunV).length : Int) ≤ 1001000) ∧ (xs.length ≤ sz * me → ((List.drop nq rs2) ++ ([⟨((sz : Nat) : Int), ad13, cp14, sortB Pt.lt (((rs2.take nq).map RunV.xs).flatten)⟩] : List RunV) : List RunV).length ≤ 1 ∧ (rd + ((readsL (List.take nq rs2) : Nat) : Int) : Int) = 0) from ⟨(hM.merge nq), (by simp only [List.length_append, List.length_drop, List.length_cons, List.length_nil]; omega), (fun h => by have := h1 h; omega)⟩) (show ((List.drop nq rs2) ++ ([⟨((sz : Nat) : Int), ad13, cp14, sortB Pt.lt (((rs2.take nq).map RunV.xs).flatten)⟩] : List RunV) : List RunV).length < rs2.length from (by simp only [List.length_append, List.length_drop, List.length_cons, List.length_nil]; omega)) (Sub.cons rfl (Sub.cons rfl (Sub.cons rfl (Sub.cons rfl (Sub.cons lookO Sub.nil))))) (show Fit κ _ (dfrI Dm :: vc 57 (.slice (ad60) ((List.drop nq rs2) ++ ([⟨((sz : Nat) : Int), ad13, cp14, sortB Pt.lt (((rs2.take nq).map RunV.xs).flatten)⟩] : List RunV)).length (cp61)) (((List.drop nq rs2) ++ ([⟨((sz : Nat) : Int), ad13, cp14, sortB Pt.lt (((rs2.take nq).map RunV.xs).flatten)⟩] : List RunV))) :: blk b5 [I64 ((((sz * me) : Nat) : Int))] 3 :: blk b4 [.slice a0 xs.length c0] 55 :: blk b3 [.slice (ad60) ((List.drop nq rs2) ++ ([⟨((sz : Nat) : Int), ad13, cp14, sortB Pt.lt (((rs2.take nq).map RunV.xs).flatten)⟩] : List RunV)).length (cp61)] 65 :: blk b2 [I64 (0), .slice none 0 0] 57 :: blk b1 [I64 (((sz : Nat) : Int))] 3 :: (runsI ((List.drop nq rs2) ++ ([⟨((sz : Nat) : Int), ad13, cp14, sortB Pt.lt (((rs2.take nq).map RunV.xs).flatten)⟩] : List RunV)) ++ I)) from (Fit.trans (show Fit κ _ (vc 60 (.slice ad13 (sortB Pt.lt (((rs2.take nq).map RunV.xs).flatten)).length cp14) (sortB Pt.lt (((rs2.take nq).map RunV.xs).flatten)) :: dfrI Dm :: vc 57 (.slice ad60 ((List.drop nq rs2) ++ ([⟨((sz : Nat) : Int), ad13, cp14, sortB Pt.lt (((rs2.take nq).map RunV.xs).flatten)⟩] : List RunV)).length cp61) ((List.drop nq rs2) ++ ([⟨((sz : Nat) : Int), ad13, cp14, sortB Pt.lt (((rs2.take nq).map RunV.xs).flatten)⟩] : List RunV)) :: blk b5 [I64 ((((sz * me) : Nat) : Int))] 3 :: blk b4 [.slice a0 xs.length c0] 55 :: blk b3 [.slice ad60 ((List.drop nq rs2) ++ ([⟨((sz : Nat) : Int), ad13, cp14, sortB Pt.lt (((rs2.take nq).map RunV.xs).flatten)⟩] : List RunV)).length cp61] 65 :: blk b2 [I64 (0), .slice none 0 0] 57 :: blk b1 [I64 (((sz : Nat) : Int))] 3 :: (runsI rs2 ++ I)) from (by first | exact Fit.s | exact Fit.sub)) (Fit.trans (runsI_drop (A := vc 60 (.slice ad13 (sortB Pt.lt (((rs2.take nq).map RunV.xs).flatten)).length cp14) (sortB Pt.lt (((rs2.take nq).map RunV.xs).flatten)) :: [dfrI Dm, vc 57 (.slice ad60 ((List.drop nq rs2) ++ ([⟨((sz : Nat) : Int), ad13, cp14, sortB Pt.lt (((rs2.take nq).map RunV.xs).flatten)⟩] : List RunV)).length cp61) ((List.drop nq rs2) ++ ([⟨((sz : Nat) : Int), ad13, cp14, sortB Pt.lt (((rs2.take nq).map RunV.xs).flatten)⟩] : List RunV)), blk b5 [I64 ((((sz * me) : Nat) : Int))] 3, blk b4 [.slice a0 xs.length c0] 55, blk b3 [.slice ad60 ((List.drop nq rs2) ++ ([⟨((sz : Nat) : Int), ad13, cp14, sortB Pt.lt (((rs2.take nq).map RunV.xs).flatten)⟩] : List RunV)).length cp61] 65, blk b2 [I64 (0), .slice none 0 0] 57, blk b1 [I64 (((sz : Nat) : Int))] 3]) (n := nq)) (Fit.perm (perm_run (A := [dfrI Dm, vc 57 (.slice ad60 ((List.drop nq rs2) ++ ([⟨((sz : Nat) : Int), ad13, cp14, sortB Pt.lt (((rs2.take nq).map RunV.xs).flatten)⟩] : List RunV)).length cp61) ((List.drop nq rs2) ++ ([⟨((sz : Nat) : Int), ad13, cp14, sortB Pt.lt (((rs2.take nq).map RunV.xs).flatten)⟩] : List RunV)), blk b5 [I64 ((((sz * me) : Nat) : Int))] 3, blk b4 [.slice a0 xs.length c0] 55, blk b3 [.slice ad60 ((List.drop nq rs2) ++ ([⟨((sz : Nat) : Int), ad13, cp14, sortB Pt.lt (((rs2.take nq).map RunV.xs).flatten)⟩] : List RunV)).length cp61] 65, blk b2 [I64 (0), .slice none 0 0] 57, blk b1 [I64 (((sz : Nat) : Int))] 3]) (rs := rs2.drop nq) (r := (⟨((sz : Nat) : Int), ad13, cp14, sortB Pt.lt (((rs2.take nq).map RunV.xs).flatten)⟩ : RunV)) (I := I))))))
       ·refine Step.eff rfl (Wanted.plain rfl) (Eff.alloc ty57 rfl) ?_
        rintro _ _ ⟨b62, rfl, rfl⟩
        refine ⟨Fit.m, ?_⟩
        refine D.step (rs := [4]) (by kernel_rfl) rfl rfl (all1 ?_)
        refine Step.eff rfl (Wanted.plain rfl) (Eff.call call114 rfl rfl (Merged_ok (Sl.take Sl.o (by omega)) (HeldRuns.fit (I := runsI rs2 ++ I) (fun r hr => runsI_held r (List.mem_of_mem_take hr)) Fit.m) (fun r hr => by have := hM.size r (List.mem_of_mem_take hr); omega) (fl := ((rs2.take nq).map RunV.xs).flatten) rfl (by omega) (sz := ((sz : Nat) : Int)))) ?_
        rintro _ _ ⟨_, _, ⟨ad63, cp64, rfl, rfl⟩, rfl, rfl⟩
        refine ⟨Fit.m, ?_⟩
        refine D.r 5 rfl (Runs.move rfl) ?_
        refine D.r 6 rfl (Runs.extract rfl rfl) ?_
        refine D.step (rs := [7, 9]) (by kernel_rfl) rfl rfl (all2 ?_ (all1 ?_))
        ·refine Step.read rfl (Wanted.plain rfl) rfl rfl (Runs.extract rfl rfl) Fit.m ?_
         refine D.stop (by kernel_rfl) ?_
         refine A.eff (i := 9) (by kernel_rfl) rfl (Wanted.plain rfl) (Eff.st (cs := [_, _]) (vs := [_, _]) (cs' := [_, _]) ty57) ?_
         rintro _ _ ⟨rfl, rfl⟩
         refine A.read (i := 10) (by kernel_rfl) rfl (Wanted.plain rfl) rfl rfl (Runs.assign rfl) ?_
         refine A.done (by kernel_rfl) ?_
         refine V.then ?_
         refine W.sub (L' := [(16, _), (15, _), (14, _), (2, _), (4, _), (6, _), (9, _), (13, _)]) (Sub.cons rfl (Sub.cons rfl (Sub.cons rfl (Sub.cons rfl (Sub.cons rfl (Sub.cons rfl (Sub.cons rfl (Sub.cons rfl Sub.nil)))))))) ?_
         refine W.seq ?_
         refine W.drawn mixed ?_
         refine A.hold (vc 60 (.slice ad63 (sortB Pt.lt (((rs2.take nq).map RunV.xs).flatten)).length cp64) (sortB Pt.lt (((rs2.take nq).map RunV.xs).flatten)) :: blk b62 [I64 (((sz : Nat) : Int)), .slice ad63 (sortB Pt.lt (((rs2.take nq).map RunV.xs).flatten)).length cp64] 57 :: dfrI Dm :: vc 57 (.slice a2 rs2.length c2) (rs2) :: blk b5 [I64 ((((sz * me) : Nat) : Int))] 3 :: blk b4 [.slice a0 xs.length c0] 55 :: blk b2 [I64 (0), .slice none 0 0] 57 :: blk b1 [I64 (((sz : Nat) : Int))] 3 :: (runsI rs2 ++ I)) 7 ?_
         refine D.r 1 rfl (Runs.move rfl) ?_ (hJ := Fit.sub)
         refine D.r 4 rfl (Runs.lds (vs := [_, _]) ty57) ?_ (hJ := Fit.sub)
         refine D.step (rs := [0, 5]) (by kernel_rfl) rfl rfl (all2 ?_ (all1 ?_))
         ·refine Step.read rfl (Wanted.plain rfl) rfl rfl (Runs.ld ty65) Fit.sub ?_
          refine D.r 2 rfl (Runs.lo (α := RunV) (xs := rs2) (l := nq) Try.underlying65 ty57 rfl rfl (by omega) Sl.o (by omega)) ?_ (hJ := Fit.sub)
          refine D.step (rs := [3, 5]) (by kernel_rfl) rfl rfl (all2 ?_ (all1 ?_))
          ·refine Step.eff rfl (Wanted.plain rfl) (Eff.call call129 rfl rfl (CloneR (xs := List.drop nq rs2) (Sl.drop Sl.o (by omega)) (by rw [List.length_drop]; omega))) ?_
           rintro _ _ ⟨_, _, ⟨ad65, cp66, rfl, rfl⟩, rfl, rfl⟩
           refine ⟨Fit.sub, ?_⟩
           refine D.step (rs := [5]) (by kernel_rfl) rfl rfl (all1 ?_)
           refine Step.eff rfl (Wanted.plain rfl) (Eff.bs (α := RunV) (cs := [_, _]) (xs := [⟨((sz : Nat) : Int), ad63, cp64, sortB Pt.lt (((rs2.take nq).map RunV.xs).flatten)⟩]) Try.underlying65 ty57 rfl rfl (by decide) (by decide) rfl rfl rfl rfl) ?_
           rintro _ _ ⟨ad67, rfl, rfl⟩
           refine ⟨Fit.sub, ?_⟩
           refine D.step (rs := [6]) (by kernel_rfl) rfl rfl (all1 ?_)
           refine Step.eff rfl (Wanted.plain rfl) (Eff.app (α := RunV) (e := 57) (xs := List.drop nq rs2) (ys := ([⟨((sz : Nat) : Int), ad63, cp64, sortB Pt.lt (((rs2.take nq).map RunV.xs).flatten)⟩] : List RunV)) Try.underlying65 ty57 rfl rfl rfl (by repeat (first | exact List.mem_cons_self | apply List.mem_cons_of_mem)) Sl.o (by simp only [List.length_cons, List.length_nil]; omega) (by decide) rfl (fun _ _ => (by repeat (first | exact At.head _ _ _ | apply At.tail)))) ?_
           rintro _ _ ⟨ad68, cp69, rfl, rfl⟩
           refine ⟨Fit.sub, ?_⟩
           refine D.stop (by kernel_rfl) ?_
           refine A.eff (i := 7) (by kernel_rfl) rfl (Wanted.plain rfl) (Eff.st (cs := [_]) (vs := [_]) (cs' := [_]) ty65) ?_
           rintro _ _ ⟨rfl, rfl⟩
           refine A.done (by kernel_rfl) ?_
           refine V.then ?_
           refine W.sub (L' := [(16, _), (2, _), (4, _), (6, _), (9, _), (13, _)]) (Sub.cons rfl (Sub.cons rfl (Sub.cons rfl (Sub.cons rfl (Sub.cons rfl (Sub.cons rfl Sub.nil)))))) ?_
           refine W.region ?_
           refine G.r (Runs.move rfl) ?_
           refine G.r (Runs.move rfl) ?_
           refine G.r (Runs.add rfl rfl (by unfold InR; omega)) ?_
           refine G.r (Runs.assign rfl) ?_
           refine G.nil ?_
           refine V.block_normal ?_
           exact V.next ((ad68), (cp69), ((List.drop nq rs2) ++ ([⟨((sz : Nat) : Int), ad63, cp64, sortB Pt.lt (((rs2.take nq).map RunV.xs).flatten)⟩] : List RunV)), (rd + ((readsL (List.take nq rs2) : Nat) : Int))) (show (Mrg xs ((sz : Nat) : Int) ((List.drop nq rs2) ++ ([⟨((sz : Nat) : Int), ad63, cp64, sortB Pt.lt (((rs2.take nq).map RunV.xs).flatten)⟩] : List RunV) : List RunV)) ∧ (0 ≤ (rd + ((readsL (List.take nq rs2) : Nat) : Int) : Int) ∧ (rd + ((readsL (List.take nq rs2) : Nat) : Int) : Int) + 1000 * (((List.drop nq rs2) ++ ([⟨((sz : Nat) : Int), ad63, cp64, sortB Pt.lt (((rs2.take nq).map RunV.xs).flatten)⟩] : List RunV) : List RunV).length : Int) ≤ 1001000) ∧ (xs.length ≤ sz * me → ((List.drop nq rs2) ++ ([⟨((sz : Nat) : Int), ad63, cp64, sortB Pt.lt (((rs2.take nq).map RunV.xs).flatten)⟩] : List RunV) : List RunV).length ≤ 1 ∧ (rd + ((readsL (List.take nq rs2) : Nat) : Int) : Int) = 0) from ⟨(hM.merge nq), (by simp only [List.length_append, List.length_drop, List.length_cons, List.length_nil]; omega), (fun h => by have := h1 h; omega)⟩) (show ((List.drop nq rs2) ++ ([⟨((sz : Nat) : Int), ad63, cp64, sortB Pt.lt (((rs2.take nq).map RunV.xs).flatten)⟩] : List RunV) : List RunV).length < rs2.length from (by simp only [List.length_append, List.length_drop, List.length_cons, List.length_nil]; omega)) (Sub.cons rfl (Sub.cons rfl (Sub.cons rfl (Sub.cons rfl (Sub.cons lookO Sub.nil))))) (show Fit κ _ (dfrI Dm :: vc 57 (.slice (ad68) ((List.drop nq rs2) ++ ([⟨((sz : Nat) : Int), ad63, cp64, sortB Pt.lt (((rs2.take nq).map RunV.xs).flatten)⟩] : List RunV)).length (cp69)) (((List.drop nq rs2) ++ ([⟨((sz : Nat) : Int), ad63, cp64, sortB Pt.lt (((rs2.take nq).map RunV.xs).flatten)⟩] : List RunV))) :: blk b5 [I64 ((((sz * me) : Nat) : Int))] 3 :: blk b4 [.slice a0 xs.length c0] 55 :: blk b3 [.slice (ad68) ((List.drop nq rs2) ++ ([⟨((sz : Nat) : Int), ad63, cp64, sortB Pt.lt (((rs2.take nq).map RunV.xs).flatten)⟩] : List RunV)).length (cp69)] 65 :: blk b2 [I64 (0), .slice none 0 0] 57 :: blk b1 [I64 (((sz : Nat) : Int))] 3 :: (runsI ((List.drop nq rs2) ++ ([⟨((sz : Nat) : Int), ad63, cp64, sortB Pt.lt (((rs2.take nq).map RunV.xs).flatten)⟩] : List RunV)) ++ I)) from (Fit.trans (show Fit κ _ (vc 60 (.slice ad63 (sortB Pt.lt (((rs2.take nq).map RunV.xs).flatten)).length cp64) (sortB Pt.lt (((rs2.take nq).map RunV.xs).flatten)) :: dfrI Dm :: vc 57 (.slice ad68 ((List.drop nq rs2) ++ ([⟨((sz : Nat) : Int), ad63, cp64, sortB Pt.lt (((rs2.take nq).map RunV.xs).flatten)⟩] : List RunV)).length cp69) ((List.drop nq rs2) ++ ([⟨((sz : Nat) : Int), ad63, cp64, sortB Pt.lt (((rs2.take nq).map RunV.xs).flatten)⟩] : List RunV)) :: blk b5 [I64 ((((sz * me) : Nat) : Int))] 3 :: blk b4 [.slice a0 xs.length c0] 55 :: blk b3 [.slice ad68 ((List.drop nq rs2) ++ ([⟨((sz : Nat) : Int), ad63, cp64, sortB Pt.lt (((rs2.take nq).map RunV.xs).flatten)⟩] : List RunV)).length cp69] 65 :: blk b2 [I64 (0), .slice none 0 0] 57 :: blk b1 [I64 (((sz : Nat) : Int))] 3 :: (runsI rs2 ++ I)) from (by first | exact Fit.s | exact Fit.sub)) (Fit.trans (runsI_drop (A := vc 60 (.slice ad63 (sortB Pt.lt (((rs2.take nq).map RunV.xs).flatten)).length cp64) (sortB Pt.lt (((rs2.take nq).map RunV.xs).flatten)) :: [dfrI Dm, vc 57 (.slice ad68 ((List.drop nq rs2) ++ ([⟨((sz : Nat) : Int), ad63, cp64, sortB Pt.lt (((rs2.take nq).map RunV.xs).flatten)⟩] : List RunV)).length cp69) ((List.drop nq rs2) ++ ([⟨((sz : Nat) : Int), ad63, cp64, sortB Pt.lt (((rs2.take nq).map RunV.xs).flatten)⟩] : List RunV)), blk b5 [I64 ((((sz * me) : Nat) : Int))] 3, blk b4 [.slice a0 xs.length c0] 55, blk b3 [.slice ad68 ((List.drop nq rs2) ++ ([⟨((sz : Nat) : Int), ad63, cp64, sortB Pt.lt (((rs2.take nq).map RunV.xs).flatten)⟩] : List RunV)).length cp69] 65, blk b2 [I64 (0), .slice none 0 0] 57, blk b1 [I64 (((sz : Nat) : Int))] 3]) (n := nq)) (Fit.perm (perm_run (A := [dfrI Dm, vc 57 (.slice ad68 ((List.drop nq rs2) ++ ([⟨((sz : Nat) : Int), ad63, cp64, sortB Pt.lt (((rs2.take nq).map RunV.xs).flatten)⟩] : List RunV)).length cp69) ((List.drop nq rs2) ++ ([⟨((sz : Nat) : Int), ad63, cp64, sortB Pt.lt (((rs2.take nq).map RunV.xs).flatten)⟩] : List RunV)), blk b5 [I64 ((((sz * me) : Nat) : Int))] 3, blk b4 [.slice a0 xs.length c0] 55, blk b3 [.slice ad68 ((List.drop nq rs2) ++ ([⟨((sz : Nat) : Int), ad63, cp64, sortB Pt.lt (((rs2.take nq).map RunV.xs).flatten)⟩] : List RunV)).length cp69] 65, blk b2 [I64 (0), .slice none 0 0] 57, blk b1 [I64 (((sz : Nat) : Int))] 3]) (rs := rs2.drop nq) (r := (⟨((sz : Nat) : Int), ad63, cp64, sortB Pt.lt (((rs2.take nq).map RunV.xs).flatten)⟩ : RunV)) (I := I))))))
          ·refine Step.eff rfl (Wanted.plain rfl) (Eff.bs (α := RunV) (cs := [_, _]) (xs := [⟨((sz : Nat) : Int), ad63, cp64, sortB Pt.lt (((rs2.take nq).map RunV.xs).flatten)⟩]) Try.underlying65 ty57 rfl rfl (by decide) (by decide) rfl rfl rfl rfl) ?_
           rintro _ _ ⟨ad70, rfl, rfl⟩
           refine ⟨Fit.sub, ?_⟩
           refine D.step (rs := [3]) (by kernel_rfl) rfl rfl (all1 ?_)
           refine Step.eff rfl (Wanted.plain rfl) (Eff.call call129 rfl rfl (CloneR (xs := List.drop nq rs2) (Sl.drop Sl.o (by omega)) (by rw [List.length_drop]; omega))) ?_
           rintro _ _ ⟨_, _, ⟨ad71, cp72, rfl, rfl⟩, rfl, rfl⟩
           refine ⟨Fit.sub, ?_⟩
           refine D.step (rs := [6]) (by kernel_rfl) rfl rfl (all1 ?_)
           refine Step.eff rfl (Wanted.plain rfl) (Eff.app (α := RunV) (e := 57) (xs := List.drop nq rs2) (ys := ([⟨((sz : Nat) : Int), ad63, cp64, sortB Pt.lt (((rs2.take nq).map RunV.xs).flatten)⟩] : List RunV)) Try.underlying65 ty57 rfl rfl rfl (by repeat (first | exact List.mem_cons_self | apply List.mem_cons_of_mem)) Sl.o (by simp only [List.length_cons, List.length_nil]; omega) (by decide) rfl (fun _ _ => (by repeat (first | exact At.head _ _ _ | apply At.tail)))) ?_
           rintro _ _ ⟨ad73, cp74, rfl, rfl⟩
           refine ⟨Fit.sub, ?_⟩
           refine D.stop (by kernel_rfl) ?_
           refine A.eff (i := 7) (by kernel_rfl) rfl (Wanted.plain rfl) (Eff.st (cs := [_]) (vs := [_]) (cs' := [_]) ty65) ?_
           rintro _ _ ⟨rfl, rfl⟩
           refine A.done (by kernel_rfl) ?_
           refine V.then ?_
           refine W.sub (L' := [(16, _), (2, _), (4, _), (6, _), (9, _), (13, _)]) (Sub.cons rfl (Sub.cons rfl (Sub.cons rfl (Sub.cons rfl (Sub.cons rfl (Sub.cons rfl Sub.nil)))))) ?_
           refine W.region ?_
           refine G.r (Runs.move rfl) ?_
           refine G.r (Runs.move rfl) ?_
           refine G.r (Runs.add rfl rfl (by unfold InR; omega)) ?_
           refine G.r (Runs.assign rfl) ?_
           refine G.nil ?_
           refine V.block_normal ?_
           exact V.next ((ad73), (cp74), ((List.drop nq rs2) ++ ([⟨((sz : Nat) : Int), ad63, cp64, sortB Pt.lt (((rs2.take nq).map RunV.xs).flatten)⟩] : List RunV)), (rd + ((readsL (List.take nq rs2) : Nat) : Int))) (show (Mrg xs ((sz : Nat) : Int) ((List.drop nq rs2) ++ ([⟨((sz : Nat) : Int), ad63, cp64, sortB Pt.lt (((rs2.take nq).map RunV.xs).flatten)⟩] : List RunV) : List RunV)) ∧ (0 ≤ (rd + ((readsL (List.take nq rs2) : Nat) : Int) : Int) ∧ (rd + ((readsL (List.take nq rs2) : Nat) : Int) : Int) + 1000 * (((List.drop nq rs2) ++ ([⟨((sz : Nat) : Int), ad63, cp64, sortB Pt.lt (((rs2.take nq).map RunV.xs).flatten)⟩] : List RunV) : List RunV).length : Int) ≤ 1001000) ∧ (xs.length ≤ sz * me → ((List.drop nq rs2) ++ ([⟨((sz : Nat) : Int), ad63, cp64, sortB Pt.lt (((rs2.take nq).map RunV.xs).flatten)⟩] : List RunV) : List RunV).length ≤ 1 ∧ (rd + ((readsL (List.take nq rs2) : Nat) : Int) : Int) = 0) from ⟨(hM.merge nq), (by simp only [List.length_append, List.length_drop, List.length_cons, List.length_nil]; omega), (fun h => by have := h1 h; omega)⟩) (show ((List.drop nq rs2) ++ ([⟨((sz : Nat) : Int), ad63, cp64, sortB Pt.lt (((rs2.take nq).map RunV.xs).flatten)⟩] : List RunV) : List RunV).length < rs2.length from (by simp only [List.length_append, List.length_drop, List.length_cons, List.length_nil]; omega)) (Sub.cons rfl (Sub.cons rfl (Sub.cons rfl (Sub.cons rfl (Sub.cons lookO Sub.nil))))) (show Fit κ _ (dfrI Dm :: vc 57 (.slice (ad73) ((List.drop nq rs2) ++ ([⟨((sz : Nat) : Int), ad63, cp64, sortB Pt.lt (((rs2.take nq).map RunV.xs).flatten)⟩] : List RunV)).length (cp74)) (((List.drop nq rs2) ++ ([⟨((sz : Nat) : Int), ad63, cp64, sortB Pt.lt (((rs2.take nq).map RunV.xs).flatten)⟩] : List RunV))) :: blk b5 [I64 ((((sz * me) : Nat) : Int))] 3 :: blk b4 [.slice a0 xs.length c0] 55 :: blk b3 [.slice (ad73) ((List.drop nq rs2) ++ ([⟨((sz : Nat) : Int), ad63, cp64, sortB Pt.lt (((rs2.take nq).map RunV.xs).flatten)⟩] : List RunV)).length (cp74)] 65 :: blk b2 [I64 (0), .slice none 0 0] 57 :: blk b1 [I64 (((sz : Nat) : Int))] 3 :: (runsI ((List.drop nq rs2) ++ ([⟨((sz : Nat) : Int), ad63, cp64, sortB Pt.lt (((rs2.take nq).map RunV.xs).flatten)⟩] : List RunV)) ++ I)) from (Fit.trans (show Fit κ _ (vc 60 (.slice ad63 (sortB Pt.lt (((rs2.take nq).map RunV.xs).flatten)).length cp64) (sortB Pt.lt (((rs2.take nq).map RunV.xs).flatten)) :: dfrI Dm :: vc 57 (.slice ad73 ((List.drop nq rs2) ++ ([⟨((sz : Nat) : Int), ad63, cp64, sortB Pt.lt (((rs2.take nq).map RunV.xs).flatten)⟩] : List RunV)).length cp74) ((List.drop nq rs2) ++ ([⟨((sz : Nat) : Int), ad63, cp64, sortB Pt.lt (((rs2.take nq).map RunV.xs).flatten)⟩] : List RunV)) :: blk b5 [I64 ((((sz * me) : Nat) : Int))] 3 :: blk b4 [.slice a0 xs.length c0] 55 :: blk b3 [.slice ad73 ((List.drop nq rs2) ++ ([⟨((sz : Nat) : Int), ad63, cp64, sortB Pt.lt (((rs2.take nq).map RunV.xs).flatten)⟩] : List RunV)).length cp74] 65 :: blk b2 [I64 (0), .slice none 0 0] 57 :: blk b1 [I64 (((sz : Nat) : Int))] 3 :: (runsI rs2 ++ I)) from (by first | exact Fit.s | exact Fit.sub)) (Fit.trans (runsI_drop (A := vc 60 (.slice ad63 (sortB Pt.lt (((rs2.take nq).map RunV.xs).flatten)).length cp64) (sortB Pt.lt (((rs2.take nq).map RunV.xs).flatten)) :: [dfrI Dm, vc 57 (.slice ad73 ((List.drop nq rs2) ++ ([⟨((sz : Nat) : Int), ad63, cp64, sortB Pt.lt (((rs2.take nq).map RunV.xs).flatten)⟩] : List RunV)).length cp74) ((List.drop nq rs2) ++ ([⟨((sz : Nat) : Int), ad63, cp64, sortB Pt.lt (((rs2.take nq).map RunV.xs).flatten)⟩] : List RunV)), blk b5 [I64 ((((sz * me) : Nat) : Int))] 3, blk b4 [.slice a0 xs.length c0] 55, blk b3 [.slice ad73 ((List.drop nq rs2) ++ ([⟨((sz : Nat) : Int), ad63, cp64, sortB Pt.lt (((rs2.take nq).map RunV.xs).flatten)⟩] : List RunV)).length cp74] 65, blk b2 [I64 (0), .slice none 0 0] 57, blk b1 [I64 (((sz : Nat) : Int))] 3]) (n := nq)) (Fit.perm (perm_run (A := [dfrI Dm, vc 57 (.slice ad73 ((List.drop nq rs2) ++ ([⟨((sz : Nat) : Int), ad63, cp64, sortB Pt.lt (((rs2.take nq).map RunV.xs).flatten)⟩] : List RunV)).length cp74) ((List.drop nq rs2) ++ ([⟨((sz : Nat) : Int), ad63, cp64, sortB Pt.lt (((rs2.take nq).map RunV.xs).flatten)⟩] : List RunV)), blk b5 [I64 ((((sz * me) : Nat) : Int))] 3, blk b4 [.slice a0 xs.length c0] 55, blk b3 [.slice ad73 ((List.drop nq rs2) ++ ([⟨((sz : Nat) : Int), ad63, cp64, sortB Pt.lt (((rs2.take nq).map RunV.xs).flatten)⟩] : List RunV)).length cp74] 65, blk b2 [I64 (0), .slice none 0 0] 57, blk b1 [I64 (((sz : Nat) : Int))] 3]) (rs := rs2.drop nq) (r := (⟨((sz : Nat) : Int), ad63, cp64, sortB Pt.lt (((rs2.take nq).map RunV.xs).flatten)⟩ : RunV)) (I := I))))))
         ·refine Step.eff rfl (Wanted.plain rfl) (Eff.bs (α := RunV) (cs := [_, _]) (xs := [⟨((sz : Nat) : Int), ad63, cp64, sortB Pt.lt (((rs2.take nq).map RunV.xs).flatten)⟩]) Try.underlying65 ty57 rfl rfl (by decide) (by decide) rfl rfl rfl rfl) ?_
          rintro _ _ ⟨ad75, rfl, rfl⟩
          refine ⟨Fit.sub, ?_⟩
          refine D.step (rs := [0]) (by kernel_rfl) rfl rfl (all1 ?_)
          refine Step.read rfl (Wanted.plain rfl) rfl rfl (Runs.ld ty65) Fit.sub ?_
          refine D.r 2 rfl (Runs.lo (α := RunV) (xs := rs2) (l := nq) Try.underlying65 ty57 rfl rfl (by omega) Sl.o (by omega)) ?_ (hJ := Fit.sub)
          refine D.step (rs := [3]) (by kernel_rfl) rfl rfl (all1 ?_)
          refine Step.eff rfl (Wanted.plain rfl) (Eff.call call129 rfl rfl (CloneR (xs := List.drop nq rs2) (Sl.drop Sl.o (by omega)) (by rw [List.length_drop]; omega))) ?_
          rintro _ _ ⟨_, _, ⟨ad76, cp77, rfl, rfl⟩, rfl, rfl⟩
          refine ⟨Fit.sub, ?_⟩
          refine D.step (rs := [6]) (by kernel_rfl) rfl rfl (all1 ?_)
          refine Step.eff rfl (Wanted.plain rfl) (Eff.app (α := RunV) (e := 57) (xs := List.drop nq rs2) (ys := ([⟨((sz : Nat) : Int), ad63, cp64, sortB Pt.lt (((rs2.take nq).map RunV.xs).flatten)⟩] : List RunV)) Try.underlying65 ty57 rfl rfl rfl (by repeat (first | exact List.mem_cons_self | apply List.mem_cons_of_mem)) Sl.o (by simp only [List.length_cons, List.length_nil]; omega) (by decide) rfl (fun _ _ => (by repeat (first | exact At.head _ _ _ | apply At.tail)))) ?_
          rintro _ _ ⟨ad78, cp79, rfl, rfl⟩
          refine ⟨Fit.sub, ?_⟩
          refine D.stop (by kernel_rfl) ?_
          refine A.eff (i := 7) (by kernel_rfl) rfl (Wanted.plain rfl) (Eff.st (cs := [_]) (vs := [_]) (cs' := [_]) ty65) ?_
          rintro _ _ ⟨rfl, rfl⟩
          refine A.done (by kernel_rfl) ?_
          refine V.then ?_
          refine W.sub (L' := [(16, _), (2, _), (4, _), (6, _), (9, _), (13, _)]) (Sub.cons rfl (Sub.cons rfl (Sub.cons rfl (Sub.cons rfl (Sub.cons rfl (Sub.cons rfl Sub.nil)))))) ?_
          refine W.region ?_
          refine G.r (Runs.move rfl) ?_
          refine G.r (Runs.move rfl) ?_
          refine G.r (Runs.add rfl rfl (by unfold InR; omega)) ?_
          refine G.r (Runs.assign rfl) ?_
          refine G.nil ?_
          refine V.block_normal ?_
          exact V.next ((ad78), (cp79), ((List.drop nq rs2) ++ ([⟨((sz : Nat) : Int), ad63, cp64, sortB Pt.lt (((rs2.take nq).map RunV.xs).flatten)⟩] : List RunV)), (rd + ((readsL (List.take nq rs2) : Nat) : Int))) (show (Mrg xs ((sz : Nat) : Int) ((List.drop nq rs2) ++ ([⟨((sz : Nat) : Int), ad63, cp64, sortB Pt.lt (((rs2.take nq).map RunV.xs).flatten)⟩] : List RunV) : List RunV)) ∧ (0 ≤ (rd + ((readsL (List.take nq rs2) : Nat) : Int) : Int) ∧ (rd + ((readsL (List.take nq rs2) : Nat) : Int) : Int) + 1000 * (((List.drop nq rs2) ++ ([⟨((sz : Nat) : Int), ad63, cp64, sortB Pt.lt (((rs2.take nq).map RunV.xs).flatten)⟩] : List RunV) : List RunV).length : Int) ≤ 1001000) ∧ (xs.length ≤ sz * me → ((List.drop nq rs2) ++ ([⟨((sz : Nat) : Int), ad63, cp64, sortB Pt.lt (((rs2.take nq).map RunV.xs).flatten)⟩] : List RunV) : List RunV).length ≤ 1 ∧ (rd + ((readsL (List.take nq rs2) : Nat) : Int) : Int) = 0) from ⟨(hM.merge nq), (by simp only [List.length_append, List.length_drop, List.length_cons, List.length_nil]; omega), (fun h => by have := h1 h; omega)⟩) (show ((List.drop nq rs2) ++ ([⟨((sz : Nat) : Int), ad63, cp64, sortB Pt.lt (((rs2.take nq).map RunV.xs).flatten)⟩] : List RunV) : List RunV).length < rs2.length from (by simp only [List.length_append, List.length_drop, List.length_cons, List.length_nil]; omega)) (Sub.cons rfl (Sub.cons rfl (Sub.cons rfl (Sub.cons rfl (Sub.cons lookO Sub.nil))))) (show Fit κ _ (dfrI Dm :: vc 57 (.slice (ad78) ((List.drop nq rs2) ++ ([⟨((sz : Nat) : Int), ad63, cp64, sortB Pt.lt (((rs2.take nq).map RunV.xs).flatten)⟩] : List RunV)).length (cp79)) (((List.drop nq rs2) ++ ([⟨((sz : Nat) : Int), ad63, cp64, sortB Pt.lt (((rs2.take nq).map RunV.xs).flatten)⟩] : List RunV))) :: blk b5 [I64 ((((sz * me) : Nat) : Int))] 3 :: blk b4 [.slice a0 xs.length c0] 55 :: blk b3 [.slice (ad78) ((List.drop nq rs2) ++ ([⟨((sz : Nat) : Int), ad63, cp64, sortB Pt.lt (((rs2.take nq).map RunV.xs).flatten)⟩] : List RunV)).length (cp79)] 65 :: blk b2 [I64 (0), .slice none 0 0] 57 :: blk b1 [I64 (((sz : Nat) : Int))] 3 :: (runsI ((List.drop nq rs2) ++ ([⟨((sz : Nat) : Int), ad63, cp64, sortB Pt.lt (((rs2.take nq).map RunV.xs).flatten)⟩] : List RunV)) ++ I)) from (Fit.trans (show Fit κ _ (vc 60 (.slice ad63 (sortB Pt.lt (((rs2.take nq).map RunV.xs).flatten)).length cp64) (sortB Pt.lt (((rs2.take nq).map RunV.xs).flatten)) :: dfrI Dm :: vc 57 (.slice ad78 ((List.drop nq rs2) ++ ([⟨((sz : Nat) : Int), ad63, cp64, sortB Pt.lt (((rs2.take nq).map RunV.xs).flatten)⟩] : List RunV)).length cp79) ((List.drop nq rs2) ++ ([⟨((sz : Nat) : Int), ad63, cp64, sortB Pt.lt (((rs2.take nq).map RunV.xs).flatten)⟩] : List RunV)) :: blk b5 [I64 ((((sz * me) : Nat) : Int))] 3 :: blk b4 [.slice a0 xs.length c0] 55 :: blk b3 [.slice ad78 ((List.drop nq rs2) ++ ([⟨((sz : Nat) : Int), ad63, cp64, sortB Pt.lt (((rs2.take nq).map RunV.xs).flatten)⟩] : List RunV)).length cp79] 65 :: blk b2 [I64 (0), .slice none 0 0] 57 :: blk b1 [I64 (((sz : Nat) : Int))] 3 :: (runsI rs2 ++ I)) from (by first | exact Fit.s | exact Fit.sub)) (Fit.trans (runsI_drop (A := vc 60 (.slice ad63 (sortB Pt.lt (((rs2.take nq).map RunV.xs).flatten)).length cp64) (sortB Pt.lt (((rs2.take nq).map RunV.xs).flatten)) :: [dfrI Dm, vc 57 (.slice ad78 ((List.drop nq rs2) ++ ([⟨((sz : Nat) : Int), ad63, cp64, sortB Pt.lt (((rs2.take nq).map RunV.xs).flatten)⟩] : List RunV)).length cp79) ((List.drop nq rs2) ++ ([⟨((sz : Nat) : Int), ad63, cp64, sortB Pt.lt (((rs2.take nq).map RunV.xs).flatten)⟩] : List RunV)), blk b5 [I64 ((((sz * me) : Nat) : Int))] 3, blk b4 [.slice a0 xs.length c0] 55, blk b3 [.slice ad78 ((List.drop nq rs2) ++ ([⟨((sz : Nat) : Int), ad63, cp64, sortB Pt.lt (((rs2.take nq).map RunV.xs).flatten)⟩] : List RunV)).length cp79] 65, blk b2 [I64 (0), .slice none 0 0] 57, blk b1 [I64 (((sz : Nat) : Int))] 3]) (n := nq)) (Fit.perm (perm_run (A := [dfrI Dm, vc 57 (.slice ad78 ((List.drop nq rs2) ++ ([⟨((sz : Nat) : Int), ad63, cp64, sortB Pt.lt (((rs2.take nq).map RunV.xs).flatten)⟩] : List RunV)).length cp79) ((List.drop nq rs2) ++ ([⟨((sz : Nat) : Int), ad63, cp64, sortB Pt.lt (((rs2.take nq).map RunV.xs).flatten)⟩] : List RunV)), blk b5 [I64 ((((sz * me) : Nat) : Int))] 3, blk b4 [.slice a0 xs.length c0] 55, blk b3 [.slice ad78 ((List.drop nq rs2) ++ ([⟨((sz : Nat) : Int), ad63, cp64, sortB Pt.lt (((rs2.take nq).map RunV.xs).flatten)⟩] : List RunV)).length cp79] 65, blk b2 [I64 (0), .slice none 0 0] 57, blk b1 [I64 (((sz : Nat) : Int))] 3]) (rs := rs2.drop nq) (r := (⟨((sz : Nat) : Int), ad63, cp64, sortB Pt.lt (((rs2.take nq).map RunV.xs).flatten)⟩ : RunV)) (I := I))))))
        ·refine Step.eff rfl (Wanted.plain rfl) (Eff.st (cs := [_, _]) (vs := [_, _]) (cs' := [_, _]) ty57) ?_
         rintro _ _ ⟨rfl, rfl⟩
         refine ⟨Fit.m, ?_⟩
         refine D.step (rs := [7]) (by kernel_rfl) rfl rfl (all1 ?_)
         refine Step.read rfl (Wanted.plain rfl) rfl rfl (Runs.extract rfl rfl) Fit.m ?_
         refine D.step (rs := [10]) (by kernel_rfl) rfl rfl (all1 ?_)
         refine Step.read rfl (Wanted.plain rfl) rfl rfl (Runs.assign rfl) Fit.m ?_
         refine D.done (by kernel_rfl) ?_
         refine V.then ?_
         refine W.sub (L' := [(16, _), (15, _), (14, _), (2, _), (4, _), (6, _), (9, _), (13, _)]) (Sub.cons rfl (Sub.cons rfl (Sub.cons rfl (Sub.cons rfl (Sub.cons rfl (Sub.cons rfl (Sub.cons rfl (Sub.cons rfl Sub.nil)))))))) ?_
         refine W.seq ?_
         refine W.drawn mixed ?_
         refine A.hold (vc 60 (.slice ad63 (sortB Pt.lt (((rs2.take nq).map RunV.xs).flatten)).length cp64) (sortB Pt.lt (((rs2.take nq).map RunV.xs).flatten)) :: blk b62 [I64 (((sz : Nat) : Int)), .slice ad63 (sortB Pt.lt (((rs2.take nq).map RunV.xs).flatten)).length cp64] 57 :: dfrI Dm :: vc 57 (.slice a2 rs2.length c2) (rs2) :: blk b5 [I64 ((((sz * me) : Nat) : Int))] 3 :: blk b4 [.slice a0 xs.length c0] 55 :: blk b2 [I64 (0), .slice none 0 0] 57 :: blk b1 [I64 (((sz : Nat) : Int))] 3 :: (runsI rs2 ++ I)) 7 ?_
         refine D.r 1 rfl (Runs.move rfl) ?_ (hJ := Fit.sub)
         refine D.r 4 rfl (Runs.lds (vs := [_, _]) ty57) ?_ (hJ := Fit.sub)
         refine D.step (rs := [0, 5]) (by kernel_rfl) rfl rfl (all2 ?_ (all1 ?_))
         ·refine Step.read rfl (Wanted.plain rfl) rfl rfl (Runs.ld ty65) Fit.sub ?_
          refine D.r 2 rfl (Runs.lo (α := RunV) (xs := rs2) (l := nq) Try.underlying65 ty57 rfl rfl (by omega) Sl.o (by omega)) ?_ (hJ := Fit.sub)
          refine D.step (rs := [3, 5]) (by kernel_rfl) rfl rfl (all2 ?_ (all1 ?_))
          ·refine Step.eff rfl (Wanted.plain rfl) (Eff.call call129 rfl rfl (CloneR (xs := List.drop nq rs2) (Sl.drop Sl.o (by omega)) (by rw [List.length_drop]; omega))) ?_
           rintro _ _ ⟨_, _, ⟨ad80, cp81, rfl, rfl⟩, rfl, rfl⟩
           refine ⟨Fit.sub, ?_⟩
           refine D.step (rs := [5]) (by kernel_rfl) rfl rfl (all1 ?_)
           refine Step.eff rfl (Wanted.plain rfl) (Eff.bs (α := RunV) (cs := [_, _]) (xs := [⟨((sz : Nat) : Int), ad63, cp64, sortB Pt.lt (((rs2.take nq).map RunV.xs).flatten)⟩]) Try.underlying65 ty57 rfl rfl (by decide) (by decide) rfl rfl rfl rfl) ?_
           rintro _ _ ⟨ad82, rfl, rfl⟩
           refine ⟨Fit.sub, ?_⟩
           refine D.step (rs := [6]) (by kernel_rfl) rfl rfl (all1 ?_)
           refine Step.eff rfl (Wanted.plain rfl) (Eff.app (α := RunV) (e := 57) (xs := List.drop nq rs2) (ys := ([⟨((sz : Nat) : Int), ad63, cp64, sortB Pt.lt (((rs2.take nq).map RunV.xs).flatten)⟩] : List RunV)) Try.underlying65 ty57 rfl rfl rfl (by repeat (first | exact List.mem_cons_self | apply List.mem_cons_of_mem)) Sl.o (by simp only [List.length_cons, List.length_nil]; omega) (by decide) rfl (fun _ _ => (by repeat (first | exact At.head _ _ _ | apply At.tail)))) ?_
           rintro _ _ ⟨ad83, cp84, rfl, rfl⟩
           refine ⟨Fit.sub, ?_⟩
           refine D.stop (by kernel_rfl) ?_
           refine A.eff (i := 7) (by kernel_rfl) rfl (Wanted.plain rfl) (Eff.st (cs := [_]) (vs := [_]) (cs' := [_]) ty65) ?_
           rintro _ _ ⟨rfl, rfl⟩
           refine A.done (by kernel_rfl) ?_
           refine V.then ?_
           refine W.sub (L' := [(16, _), (2, _), (4, _), (6, _), (9, _), (13, _)]) (Sub.cons rfl (Sub.cons rfl (Sub.cons rfl (Sub.cons rfl (Sub.cons rfl (Sub.cons rfl Sub.nil)))))) ?_
           refine W.region ?_
           refine G.r (Runs.move rfl) ?_
           refine G.r (Runs.move rfl) ?_
           refine G.r (Runs.add rfl rfl (by unfold InR; omega)) ?_
           refine G.r (Runs.assign rfl) ?_
           refine G.nil ?_
           refine V.block_normal ?_
           exact V.next ((ad83), (cp84), ((List.drop nq rs2) ++ ([⟨((sz : Nat) : Int), ad63, cp64, sortB Pt.lt (((rs2.take nq).map RunV.xs).flatten)⟩] : List RunV)), (rd + ((readsL (List.take nq rs2) : Nat) : Int))) (show (Mrg xs ((sz : Nat) : Int) ((List.drop nq rs2) ++ ([⟨((sz : Nat) : Int), ad63, cp64, sortB Pt.lt (((rs2.take nq).map RunV.xs).flatten)⟩] : List RunV) : List RunV)) ∧ (0 ≤ (rd + ((readsL (List.take nq rs2) : Nat) : Int) : Int) ∧ (rd + ((readsL (List.take nq rs2) : Nat) : Int) : Int) + 1000 * (((List.drop nq rs2) ++ ([⟨((sz : Nat) : Int), ad63, cp64, sortB Pt.lt (((rs2.take nq).map RunV.xs).flatten)⟩] : List RunV) : List RunV).length : Int) ≤ 1001000) ∧ (xs.length ≤ sz * me → ((List.drop nq rs2) ++ ([⟨((sz : Nat) : Int), ad63, cp64, sortB Pt.lt (((rs2.take nq).map RunV.xs).flatten)⟩] : List RunV) : List RunV).length ≤ 1 ∧ (rd + ((readsL (List.take nq rs2) : Nat) : Int) : Int) = 0) from ⟨(hM.merge nq), (by simp only [List.length_append, List.length_drop, List.length_cons, List.length_nil]; omega), (fun h => by have := h1 h; omega)⟩) (show ((List.drop nq rs2) ++ ([⟨((sz : Nat) : Int), ad63, cp64, sortB Pt.lt (((rs2.take nq).map RunV.xs).flatten)⟩] : List RunV) : List RunV).length < rs2.length from (by simp only [List.length_append, List.length_drop, List.length_cons, List.length_nil]; omega)) (Sub.cons rfl (Sub.cons rfl (Sub.cons rfl (Sub.cons rfl (Sub.cons lookO Sub.nil))))) (show Fit κ _ (dfrI Dm :: vc 57 (.slice (ad83) ((List.drop nq rs2) ++ ([⟨((sz : Nat) : Int), ad63, cp64, sortB Pt.lt (((rs2.take nq).map RunV.xs).flatten)⟩] : List RunV)).length (cp84)) (((List.drop nq rs2) ++ ([⟨((sz : Nat) : Int), ad63, cp64, sortB Pt.lt (((rs2.take nq).map RunV.xs).flatten)⟩] : List RunV))) :: blk b5 [I64 ((((sz * me) : Nat) : Int))] 3 :: blk b4 [.slice a0 xs.length c0] 55 :: blk b3 [.slice (ad83) ((List.drop nq rs2) ++ ([⟨((sz : Nat) : Int), ad63, cp64, sortB Pt.lt (((rs2.take nq).map RunV.xs).flatten)⟩] : List RunV)).length (cp84)] 65 :: blk b2 [I64 (0), .slice none 0 0] 57 :: blk b1 [I64 (((sz : Nat) : Int))] 3 :: (runsI ((List.drop nq rs2) ++ ([⟨((sz : Nat) : Int), ad63, cp64, sortB Pt.lt (((rs2.take nq).map RunV.xs).flatten)⟩] : List RunV)) ++ I)) from (Fit.trans (show Fit κ _ (vc 60 (.slice ad63 (sortB Pt.lt (((rs2.take nq).map RunV.xs).flatten)).length cp64) (sortB Pt.lt (((rs2.take nq).map RunV.xs).flatten)) :: dfrI Dm :: vc 57 (.slice ad83 ((List.drop nq rs2) ++ ([⟨((sz : Nat) : Int), ad63, cp64, sortB Pt.lt (((rs2.take nq).map RunV.xs).flatten)⟩] : List RunV)).length cp84) ((List.drop nq rs2) ++ ([⟨((sz : Nat) : Int), ad63, cp64, sortB Pt.lt (((rs2.take nq).map RunV.xs).flatten)⟩] : List RunV)) :: blk b5 [I64 ((((sz * me) : Nat) : Int))] 3 :: blk b4 [.slice a0 xs.length c0] 55 :: blk b3 [.slice ad83 ((List.drop nq rs2) ++ ([⟨((sz : Nat) : Int), ad63, cp64, sortB Pt.lt (((rs2.take nq).map RunV.xs).flatten)⟩] : List RunV)).length cp84] 65 :: blk b2 [I64 (0), .slice none 0 0] 57 :: blk b1 [I64 (((sz : Nat) : Int))] 3 :: (runsI rs2 ++ I)) from (by first | exact Fit.s | exact Fit.sub)) (Fit.trans (runsI_drop (A := vc 60 (.slice ad63 (sortB Pt.lt (((rs2.take nq).map RunV.xs).flatten)).length cp64) (sortB Pt.lt (((rs2.take nq).map RunV.xs).flatten)) :: [dfrI Dm, vc 57 (.slice ad83 ((List.drop nq rs2) ++ ([⟨((sz : Nat) : Int), ad63, cp64, sortB Pt.lt (((rs2.take nq).map RunV.xs).flatten)⟩] : List RunV)).length cp84) ((List.drop nq rs2) ++ ([⟨((sz : Nat) : Int), ad63, cp64, sortB Pt.lt (((rs2.take nq).map RunV.xs).flatten)⟩] : List RunV)), blk b5 [I64 ((((sz * me) : Nat) : Int))] 3, blk b4 [.slice a0 xs.length c0] 55, blk b3 [.slice ad83 ((List.drop nq rs2) ++ ([⟨((sz : Nat) : Int), ad63, cp64, sortB Pt.lt (((rs2.take nq).map RunV.xs).flatten)⟩] : List RunV)).length cp84] 65, blk b2 [I64 (0), .slice none 0 0] 57, blk b1 [I64 (((sz : Nat) : Int))] 3]) (n := nq)) (Fit.perm (perm_run (A := [dfrI Dm, vc 57 (.slice ad83 ((List.drop nq rs2) ++ ([⟨((sz : Nat) : Int), ad63, cp64, sortB Pt.lt (((rs2.take nq).map RunV.xs).flatten)⟩] : List RunV)).length cp84) ((List.drop nq rs2) ++ ([⟨((sz : Nat) : Int), ad63, cp64, sortB Pt.lt (((rs2.take nq).map RunV.xs).flatten)⟩] : List RunV)), blk b5 [I64 ((((sz * me) : Nat) : Int))] 3, blk b4 [.slice a0 xs.length c0] 55, blk b3 [.slice ad83 ((List.drop nq rs2) ++ ([⟨((sz : Nat) : Int), ad63, cp64, sortB Pt.lt (((rs2.take nq).map RunV.xs).flatten)⟩] : List RunV)).length cp84] 65, blk b2 [I64 (0), .slice none 0 0] 57, blk b1 [I64 (((sz : Nat) : Int))] 3]) (rs := rs2.drop nq) (r := (⟨((sz : Nat) : Int), ad63, cp64, sortB Pt.lt (((rs2.take nq).map RunV.xs).flatten)⟩ : RunV)) (I := I))))))
          ·refine Step.eff rfl (Wanted.plain rfl) (Eff.bs (α := RunV) (cs := [_, _]) (xs := [⟨((sz : Nat) : Int), ad63, cp64, sortB Pt.lt (((rs2.take nq).map RunV.xs).flatten)⟩]) Try.underlying65 ty57 rfl rfl (by decide) (by decide) rfl rfl rfl rfl) ?_
           rintro _ _ ⟨ad85, rfl, rfl⟩
           refine ⟨Fit.sub, ?_⟩
           refine D.step (rs := [3]) (by kernel_rfl) rfl rfl (all1 ?_)
           refine Step.eff rfl (Wanted.plain rfl) (Eff.call call129 rfl rfl (CloneR (xs := List.drop nq rs2) (Sl.drop Sl.o (by omega)) (by rw [List.length_drop]; omega))) ?_
           rintro _ _ ⟨_, _, ⟨ad86, cp87, rfl, rfl⟩, rfl, rfl⟩
           refine ⟨Fit.sub, ?_⟩
           refine D.step (rs := [6]) (by kernel_rfl) rfl rfl (all1 ?_)
           refine Step.eff rfl (Wanted.plain rfl) (Eff.app (α := RunV) (e := 57) (xs := List.drop nq rs2) (ys := ([⟨((sz : Nat) : Int), ad63, cp64, sortB Pt.lt (((rs2.take nq).map RunV.xs).flatten)⟩] : List RunV)) Try.underlying65 ty57 rfl rfl rfl (by repeat (first | exact List.mem_cons_self | apply List.mem_cons_of_mem)) Sl.o (by simp only [List.length_cons, List.length_nil]; omega) (by decide) rfl (fun _ _ => (by repeat (first | exact At.head _ _ _ | apply At.tail)))) ?_
           rintro _ _ ⟨ad88, cp89, rfl, rfl⟩
           refine ⟨Fit.sub, ?_⟩
           refine D.stop (by kernel_rfl) ?_
           refine A.eff (i := 7) (by kernel_rfl) rfl (Wanted.plain rfl) (Eff.st (cs := [_]) (vs := [_]) (cs' := [_]) ty65) ?_
           rintro _ _ ⟨rfl, rfl⟩
           refine A.done (by kernel_rfl) ?_
           refine V.then ?_
           refine W.sub (L' := [(16, _), (2, _), (4, _), (6, _), (9, _), (13, _)]) (Sub.cons rfl (Sub.cons rfl (Sub.cons rfl (Sub.cons rfl (Sub.cons rfl (Sub.cons rfl Sub.nil)))))) ?_
           refine W.region ?_
           refine G.r (Runs.move rfl) ?_
           refine G.r (Runs.move rfl) ?_
           refine G.r (Runs.add rfl rfl (by unfold InR; omega)) ?_
           refine G.r (Runs.assign rfl) ?_
           refine G.nil ?_
           refine V.block_normal ?_
           exact V.next ((ad88), (cp89), ((List.drop nq rs2) ++ ([⟨((sz : Nat) : Int), ad63, cp64, sortB Pt.lt (((rs2.take nq).map RunV.xs).flatten)⟩] : List RunV)), (rd + ((readsL (List.take nq rs2) : Nat) : Int))) (show (Mrg xs ((sz : Nat) : Int) ((List.drop nq rs2) ++ ([⟨((sz : Nat) : Int), ad63, cp64, sortB Pt.lt (((rs2.take nq).map RunV.xs).flatten)⟩] : List RunV) : List RunV)) ∧ (0 ≤ (rd + ((readsL (List.take nq rs2) : Nat) : Int) : Int) ∧ (rd + ((readsL (List.take nq rs2) : Nat) : Int) : Int) + 1000 * (((List.drop nq rs2) ++ ([⟨((sz : Nat) : Int), ad63, cp64, sortB Pt.lt (((rs2.take nq).map RunV.xs).flatten)⟩] : List RunV) : List RunV).length : Int) ≤ 1001000) ∧ (xs.length ≤ sz * me → ((List.drop nq rs2) ++ ([⟨((sz : Nat) : Int), ad63, cp64, sortB Pt.lt (((rs2.take nq).map RunV.xs).flatten)⟩] : List RunV) : List RunV).length ≤ 1 ∧ (rd + ((readsL (List.take nq rs2) : Nat) : Int) : Int) = 0) from ⟨(hM.merge nq), (by simp only [List.length_append, List.length_drop, List.length_cons, List.length_nil]; omega), (fun h => by have := h1 h; omega)⟩) (show ((List.drop nq rs2) ++ ([⟨((sz : Nat) : Int), ad63, cp64, sortB Pt.lt (((rs2.take nq).map RunV.xs).flatten)⟩] : List RunV) : List RunV).length < rs2.length from (by simp only [List.length_append, List.length_drop, List.length_cons, List.length_nil]; omega)) (Sub.cons rfl (Sub.cons rfl (Sub.cons rfl (Sub.cons rfl (Sub.cons lookO Sub.nil))))) (show Fit κ _ (dfrI Dm :: vc 57 (.slice (ad88) ((List.drop nq rs2) ++ ([⟨((sz : Nat) : Int), ad63, cp64, sortB Pt.lt (((rs2.take nq).map RunV.xs).flatten)⟩] : List RunV)).length (cp89)) (((List.drop nq rs2) ++ ([⟨((sz : Nat) : Int), ad63, cp64, sortB Pt.lt (((rs2.take nq).map RunV.xs).flatten)⟩] : List RunV))) :: blk b5 [I64 ((((sz * me) : Nat) : Int))] 3 :: blk b4 [.slice a0 xs.length c0] 55 :: blk b3 [.slice (ad88) ((List.drop nq rs2) ++ ([⟨((sz : Nat) : Int), ad63, cp64, sortB Pt.lt (((rs2.take nq).map RunV.xs).flatten)⟩] : List RunV)).length (cp89)] 65 :: blk b2 [I64 (0), .slice none 0 0] 57 :: blk b1 [I64 (((sz : Nat) : Int))] 3 :: (runsI ((List.drop nq rs2) ++ ([⟨((sz : Nat) : Int), ad63, cp64, sortB Pt.lt (((rs2.take nq).map RunV.xs).flatten)⟩] : List RunV)) ++ I)) from (Fit.trans (show Fit κ _ (vc 60 (.slice ad63 (sortB Pt.lt (((rs2.take nq).map RunV.xs).flatten)).length cp64) (sortB Pt.lt (((rs2.take nq).map RunV.xs).flatten)) :: dfrI Dm :: vc 57 (.slice ad88 ((List.drop nq rs2) ++ ([⟨((sz : Nat) : Int), ad63, cp64, sortB Pt.lt (((rs2.take nq).map RunV.xs).flatten)⟩] : List RunV)).length cp89) ((List.drop nq rs2) ++ ([⟨((sz : Nat) : Int), ad63, cp64, sortB Pt.lt (((rs2.take nq).map RunV.xs).flatten)⟩] : List RunV)) :: blk b5 [I64 ((((sz * me) : Nat) : Int))] 3 :: blk b4 [.slice a0 xs.length c0] 55 :: blk b3 [.slice ad88 ((List.drop nq rs2) ++ ([⟨((sz : Nat) : Int), ad63, cp64, sortB Pt.lt (((rs2.take nq).map RunV.xs).flatten)⟩] : List RunV)).length cp89] 65 :: blk b2 [I64 (0), .slice none 0 0] 57 :: blk b1 [I64 (((sz : Nat) : Int))] 3 :: (runsI rs2 ++ I)) from (by first | exact Fit.s | exact Fit.sub)) (Fit.trans (runsI_drop (A := vc 60 (.slice ad63 (sortB Pt.lt (((rs2.take nq).map RunV.xs).flatten)).length cp64) (sortB Pt.lt (((rs2.take nq).map RunV.xs).flatten)) :: [dfrI Dm, vc 57 (.slice ad88 ((List.drop nq rs2) ++ ([⟨((sz : Nat) : Int), ad63, cp64, sortB Pt.lt (((rs2.take nq).map RunV.xs).flatten)⟩] : List RunV)).length cp89) ((List.drop nq rs2) ++ ([⟨((sz : Nat) : Int), ad63, cp64, sortB Pt.lt (((rs2.take nq).map RunV.xs).flatten)⟩] : List RunV)), blk b5 [I64 ((((sz * me) : Nat) : Int))] 3, blk b4 [.slice a0 xs.length c0] 55, blk b3 [.slice ad88 ((List.drop nq rs2) ++ ([⟨((sz : Nat) : Int), ad63, cp64, sortB Pt.lt (((rs2.take nq).map RunV.xs).flatten)⟩] : List RunV)).length cp89] 65, blk b2 [I64 (0), .slice none 0 0] 57, blk b1 [I64 (((sz : Nat) : Int))] 3]) (n := nq)) (Fit.perm (perm_run (A := [dfrI Dm, vc 57 (.slice ad88 ((List.drop nq rs2) ++ ([⟨((sz : Nat) : Int), ad63, cp64, sortB Pt.lt (((rs2.take nq).map RunV.xs).flatten)⟩] : List RunV)).length cp89) ((List.drop nq rs2) ++ ([⟨((sz : Nat) : Int), ad63, cp64, sortB Pt.lt (((rs2.take nq).map RunV.xs).flatten)⟩] : List RunV)), blk b5 [I64 ((((sz * me) : Nat) : Int))] 3, blk b4 [.slice a0 xs.length c0] 55, blk b3 [.slice ad88 ((List.drop nq rs2) ++ ([⟨((sz : Nat) : Int), ad63, cp64, sortB Pt.lt (((rs2.take nq).map RunV.xs).flatten)⟩] : List RunV)).length cp89] 65, blk b2 [I64 (0), .slice none 0 0] 57, blk b1 [I64 (((sz : Nat) : Int))] 3]) (rs := rs2.drop nq) (r := (⟨((sz : Nat) : Int), ad63, cp64, sortB Pt.lt (((rs2.take nq).map RunV.xs).flatten)⟩ : RunV)) (I := I))))))
         ·refine Step.eff rfl (Wanted.plain rfl) (Eff.bs (α := RunV) (cs := [_, _]) (xs := [⟨((sz : Nat) : Int), ad63, cp64, sortB Pt.lt (((rs2.take nq).map RunV.xs).flatten)⟩]) Try.underlying65 ty57 rfl rfl (by decide) (by decide) rfl rfl rfl rfl) ?_
          rintro _ _ ⟨ad90, rfl, rfl⟩
          refine ⟨Fit.sub, ?_⟩
          refine D.step (rs := [0]) (by kernel_rfl) rfl rfl (all1 ?_)
          refine Step.read rfl (Wanted.plain rfl) rfl rfl (Runs.ld ty65) Fit.sub ?_
          refine D.r 2 rfl (Runs.lo (α := RunV) (xs := rs2) (l := nq) Try.underlying65 ty57 rfl rfl (by omega) Sl.o (by omega)) ?_ (hJ := Fit.sub)
          refine D.step (rs := [3]) (by kernel_rfl) rfl rfl (all1 ?_)
          refine Step.eff rfl (Wanted.plain rfl) (Eff.call call129 rfl rfl (CloneR (xs := List.drop nq rs2) (Sl.drop Sl.o (by omega)) (by rw [List.length_drop]; omega))) ?_
          rintro _ _ ⟨_, _, ⟨ad91, cp92, rfl, rfl⟩, rfl, rfl⟩
          refine ⟨Fit.sub, ?_⟩
          refine D.step (rs := [6]) (by kernel_rfl) rfl rfl (all1 ?_)
          refine Step.eff rfl (Wanted.plain rfl) (Eff.app (α := RunV) (e := 57) (xs := List.drop nq rs2) (ys := ([⟨((sz : Nat) : Int), ad63, cp64, sortB Pt.lt (((rs2.take nq).map RunV.xs).flatten)⟩] : List RunV)) Try.underlying65 ty57 rfl rfl rfl (by repeat (first | exact List.mem_cons_self | apply List.mem_cons_of_mem)) Sl.o (by simp only [List.length_cons, List.length_nil]; omega) (by decide) rfl (fun _ _ => (by repeat (first | exact At.head _ _ _ | apply At.tail)))) ?_
          rintro _ _ ⟨ad93, cp94, rfl, rfl⟩
          refine ⟨Fit.sub, ?_⟩
          refine D.stop (by kernel_rfl) ?_
          refine A.eff (i := 7) (by kernel_rfl) rfl (Wanted.plain rfl) (Eff.st (cs := [_]) (vs := [_]) (cs' := [_]) ty65) ?_
          rintro _ _ ⟨rfl, rfl⟩
          refine A.done (by kernel_rfl) ?_
          refine V.then ?_
          refine W.sub (L' := [(16, _), (2, _), (4, _), (6, _), (9, _), (13, _)]) (Sub.cons rfl (Sub.cons rfl (Sub.cons rfl (Sub.cons rfl (Sub.cons rfl (Sub.cons rfl Sub.nil)))))) ?_
          refine W.region ?_
          refine G.r (Runs.move rfl) ?_
          refine G.r (Runs.move rfl) ?_
          refine G.r (Runs.add rfl rfl (by unfold InR; omega)) ?_
          refine G.r (Runs.assign rfl) ?_
          refine G.nil ?_
          refine V.block_normal ?_
          exact V.next ((ad93), (cp94), ((List.drop nq rs2) ++ ([⟨((sz : Nat) : Int), ad63, cp64, sortB Pt.lt (((rs2.take nq).map RunV.xs).flatten)⟩] : List RunV)), (rd + ((readsL (List.take nq rs2) : Nat) : Int))) (show (Mrg xs ((sz : Nat) : Int) ((List.drop nq rs2) ++ ([⟨((sz : Nat) : Int), ad63, cp64, sortB Pt.lt (((rs2.take nq).map RunV.xs).flatten)⟩] : List RunV) : List RunV)) ∧ (0 ≤ (rd + ((readsL (List.take nq rs2) : Nat) : Int) : Int) ∧ (rd + ((readsL (List.take nq rs2) : Nat) : Int) : Int) + 1000 * (((List.drop nq rs2) ++ ([⟨((sz : Nat) : Int), ad63, cp64, sortB Pt.lt (((rs2.take nq).map RunV.xs).flatten)⟩] : List RunV) : List RunV).length : Int) ≤ 1001000) ∧ (xs.length ≤ sz * me → ((List.drop nq rs2) ++ ([⟨((sz : Nat) : Int), ad63, cp64, sortB Pt.lt (((rs2.take nq).map RunV.xs).flatten)⟩] : List RunV) : List RunV).length ≤ 1 ∧ (rd + ((readsL (List.take nq rs2) : Nat) : Int) : Int) = 0) from ⟨(hM.merge nq), (by simp only [List.length_append, List.length_drop, List.length_cons, List.length_nil]; omega), (fun h => by have := h1 h; omega)⟩) (show ((List.drop nq rs2) ++ ([⟨((sz : Nat) : Int), ad63, cp64, sortB Pt.lt (((rs2.take nq).map RunV.xs).flatten)⟩] : List RunV) : List RunV).length < rs2.length from (by simp only [List.length_append, List.length_drop, List.length_cons, List.length_nil]; omega)) (Sub.cons rfl (Sub.cons rfl (Sub.cons rfl (Sub.cons rfl (Sub.cons lookO Sub.nil))))) (show Fit κ _ (dfrI Dm :: vc 57 (.slice (ad93) ((List.drop nq rs2) ++ ([⟨((sz : Nat) : Int), ad63, cp64, sortB Pt.lt (((rs2.take nq).map RunV.xs).flatten)⟩] : List RunV)).length (cp94)) (((List.drop nq rs2) ++ ([⟨((sz : Nat) : Int), ad63, cp64, sortB Pt.lt (((rs2.take nq).map RunV.xs).flatten)⟩] : List RunV))) :: blk b5 [I64 ((((sz * me) : Nat) : Int))] 3 :: blk b4 [.slice a0 xs.length c0] 55 :: blk b3 [.slice (ad93) ((List.drop nq rs2) ++ ([⟨((sz : Nat) : Int), ad63, cp64, sortB Pt.lt (((rs2.take nq).map RunV.xs).flatten)⟩] : List RunV)).length (cp94)] 65 :: blk b2 [I64 (0), .slice none 0 0] 57 :: blk b1 [I64 (((sz : Nat) : Int))] 3 :: (runsI ((List.drop nq rs2) ++ ([⟨((sz : Nat) : Int), ad63, cp64, sortB Pt.lt (((rs2.take nq).map RunV.xs).flatten)⟩] : List RunV)) ++ I)) from (Fit.trans (show Fit κ _ (vc 60 (.slice ad63 (sortB Pt.lt (((rs2.take nq).map RunV.xs).flatten)).length cp64) (sortB Pt.lt (((rs2.take nq).map RunV.xs).flatten)) :: dfrI Dm :: vc 57 (.slice ad93 ((List.drop nq rs2) ++ ([⟨((sz : Nat) : Int), ad63, cp64, sortB Pt.lt (((rs2.take nq).map RunV.xs).flatten)⟩] : List RunV)).length cp94) ((List.drop nq rs2) ++ ([⟨((sz : Nat) : Int), ad63, cp64, sortB Pt.lt (((rs2.take nq).map RunV.xs).flatten)⟩] : List RunV)) :: blk b5 [I64 ((((sz * me) : Nat) : Int))] 3 :: blk b4 [.slice a0 xs.length c0] 55 :: blk b3 [.slice ad93 ((List.drop nq rs2) ++ ([⟨((sz : Nat) : Int), ad63, cp64, sortB Pt.lt (((rs2.take nq).map RunV.xs).flatten)⟩] : List RunV)).length cp94] 65 :: blk b2 [I64 (0), .slice none 0 0] 57 :: blk b1 [I64 (((sz : Nat) : Int))] 3 :: (runsI rs2 ++ I)) from (by first | exact Fit.s | exact Fit.sub)) (Fit.trans (runsI_drop (A := vc 60 (.slice ad63 (sortB Pt.lt (((rs2.take nq).map RunV.xs).flatten)).length cp64) (sortB Pt.lt (((rs2.take nq).map RunV.xs).flatten)) :: [dfrI Dm, vc 57 (.slice ad93 ((List.drop nq rs2) ++ ([⟨((sz : Nat) : Int), ad63, cp64, sortB Pt.lt (((rs2.take nq).map RunV.xs).flatten)⟩] : List RunV)).length cp94) ((List.drop nq rs2) ++ ([⟨((sz : Nat) : Int), ad63, cp64, sortB Pt.lt (((rs2.take nq).map RunV.xs).flatten)⟩] : List RunV)), blk b5 [I64 ((((sz * me) : Nat) : Int))] 3, blk b4 [.slice a0 xs.length c0] 55, blk b3 [.slice ad93 ((List.drop nq rs2) ++ ([⟨((sz : Nat) : Int), ad63, cp64, sortB Pt.lt (((rs2.take nq).map RunV.xs).flatten)⟩] : List RunV)).length cp94] 65, blk b2 [I64 (0), .slice none 0 0] 57, blk b1 [I64 (((sz : Nat) : Int))] 3]) (n := nq)) (Fit.perm (perm_run (A := [dfrI Dm, vc 57 (.slice ad93 ((List.drop nq rs2) ++ ([⟨((sz : Nat) : Int), ad63, cp64, sortB Pt.lt (((rs2.take nq).map RunV.xs).flatten)⟩] : List RunV)).length cp94) ((List.drop nq rs2) ++ ([⟨((sz : Nat) : Int), ad63, cp64, sortB Pt.lt (((rs2.take nq).map RunV.xs).flatten)⟩] : List RunV)), blk b5 [I64 ((((sz * me) : Nat) : Int))] 3, blk b4 [.slice a0 xs.length c0] 55, blk b3 [.slice ad93 ((List.drop nq rs2) ++ ([⟨((sz : Nat) : Int), ad63, cp64, sortB Pt.lt (((rs2.take nq).map RunV.xs).flatten)⟩] : List RunV)).length cp94] 65, blk b2 [I64 (0), .slice none 0 0] 57, blk b1 [I64 (((sz : Nat) : Int))] 3]) (rs := rs2.drop nq) (r := (⟨((sz : Nat) : Int), ad63, cp64, sortB Pt.lt (((rs2.take nq).map RunV.xs).flatten)⟩ : RunV)) (I := I))))))
      ·refine W.exit ?_
       refine V.then_exit ?_
       refine V.then_exit ?_
       refine V.block_hit ?_
       refine V.then ?_
       refine W.seq ?_
       refine W.sr ?_
       refine G.r (Runs.ld ty65) ?_
       refine G.r (Runs.lens Try.underlying65 rfl) ?_
       refine G.r (Runs.eql rfl rfl) ?_
       refine G.nt ?_
       refine W.ite rfl (fun c86 => ?_) (fun c86 => ?_)
       ·refine W.sr ?_
        refine G.r (Runs.ld ty3) ?_
        refine G.r (Runs.build (cells := [_, _]) ty57 Try.underlying57 pl57 rfl rfl) ?_
        refine G.e (Eff.st (cs := [_, _]) (vs := [_, _]) (cs' := [_, _]) ty57) ?_
        rintro _ _ ⟨rfl, rfl⟩
        refine G.r (Runs.assign rfl) ?_
        refine G.r (Runs.assign rfl) ?_
        refine G.nt ?_
        refine W.sub (L' := [(8, _), (7, _), (6, _)]) (Sub.cons rfl (Sub.cons rfl (Sub.cons rfl Sub.nil))) ?_
        refine W.ret ?_
        refine V.then_ret ?_
        have hE := hM.none (by omega)
        refine V.fit (J := dfrI Dm :: vc 57 (.slice a2 rs2.length c2) (rs2) :: blk b5 [I64 ((((sz * me) : Nat) : Int))] 3 :: blk b4 [.slice a0 xs.length c0] 55 :: blk b3 [.slice a2 rs2.length c2] 65 :: blk b2 [I64 (((sz : Nat) : Int)), .slice none 0 0] 57 :: blk b1 [I64 (((sz : Nat) : Int))] 3 :: (runsI rs2 ++ I)) Fit.s (V.leave ?_)
        exact V.retc2 rfl ty57 rfl rfl rfl (by repeat (first | exact List.mem_cons_self | apply List.mem_cons_of_mem)) rfl (vc 60 (.slice none (sortB Pt.lt xs).length 0) (sortB Pt.lt xs) :: I) (by rw [hE]; exact Fit.trans (show Fit κ _ I from Fit.m) (Fit.nilvc (α := Pt) _ _)) ⟨none, 0, 0, by rw [hE]; rfl, ⟨fun _ => rfl, Int.le_refl _⟩, rfl⟩
       ·refine W.skip ?_
        refine V.then ?_
        refine W.sr ?_
        refine G.r (Runs.ld ty65) ?_
        refine G.r (Runs.idx (α := RunV) (xs := rs2) Try.underlying65 ty57 rfl rfl Sl.o (by omega) (by omega)) ?_
        refine G.r (Runs.gets (α := RunV) (xs := rs2) ty57 rfl Sl.o (by omega) (by omega)) ?_
        refine G.r (Runs.move rfl) ?_
        refine G.e (Eff.st (cs := [_, _]) (vs := [_, _]) (cs' := [_, _]) ty57) ?_
        rintro _ _ ⟨rfl, rfl⟩
        refine G.r (Runs.assign rfl) ?_
        refine G.r (Runs.assign rfl) ?_
        refine G.nt ?_
        refine W.sub (L' := [(8, _), (7, _), (6, _)]) (Sub.cons rfl (Sub.cons rfl (Sub.cons rfl Sub.nil))) ?_
        refine W.ret ?_
        have h1l : rs2.length = 1 := by omega
        have hO := hM.one h1l
        refine V.fit (J := dfrI Dm :: vc 57 (.slice a2 rs2.length c2) (rs2) :: blk b5 [I64 ((((sz * me) : Nat) : Int))] 3 :: blk b4 [.slice a0 xs.length c0] 55 :: blk b3 [.slice a2 rs2.length c2] 65 :: blk b2 [I64 ((at_ rs2 0).n), .slice (at_ rs2 0).a (at_ rs2 0).xs.length (at_ rs2 0).c] 57 :: blk b1 [I64 (((sz : Nat) : Int))] 3 :: (runsI rs2 ++ I)) Fit.s (V.leave ?_)
        exact V.retc2 rfl ty57 rfl rfl rfl (by repeat (first | exact List.mem_cons_self | apply List.mem_cons_of_mem)) rfl (vc 60 (.slice (at_ rs2 0).a (sortB Pt.lt xs).length (at_ rs2 0).c) (sortB Pt.lt xs) :: I) (Fit.trans (show Fit κ _ (runsI rs2 ++ I) from Fit.m) (hM.fit1 h1l)) ⟨(at_ rs2 0).a, (at_ rs2 0).c, rd, by rw [← hO.2, hO.1], ⟨fun h => (h1 h).2, hrd.1⟩, rfl⟩

end Go.Sl
