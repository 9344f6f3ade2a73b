/- A part of the proofs of statements of this seat: contracts of functions, and the plain laws that they lean on. No conditions. -/
import Derived.Test.YtfkcohmipjhfcaaGreatDoorL4
import Derived.Shelf.SlSortCmp.NoneTotal
import Derived.Shelf.SlSortCmp.WholeK
import Derived.MapKept
set_option linter.unusedVariables false
set_option linter.unusedSimpArgs false
set_option linter.unusedSectionVars false
namespace Go.Sl
open Go.Proofs
set_option maxRecDepth 4000
variable {κ : Ctx} {I : List Item}
theorem ValidP_nil (w : Int) : ValidP [] w := fun j hj => absurd hj (Nat.not_lt_zero j)
theorem ValidP_mono {xs : List Int} {w w' : Int} (h : ValidP xs w) (hw : w ≤ w') : ValidP xs w' := fun j hj => ⟨⟨(h j hj).1.1, by have := (h j hj).1.2; omega⟩, (h j hj).2⟩
theorem ValidP_push {xs : List Int} {w : Int} (h : ValidP xs w) (h0 : 0 ≤ w) : ValidP (xs ++ [w]) (w + 1) := fun j hj => by
 by_cases hl : j < xs.length
 ·obtain ⟨⟨h1, h2⟩, h3⟩ := h j hl
  rw [at_append_left xs [w] j hl]
  refine ⟨⟨h1, by omega⟩, fun hp => ?_⟩
  have e : ((j : Int) - 1) = ((j - 1 : Nat) : Int) := by omega
  rw [e, at_append_left xs [w] (j - 1) om, ← e]
  exact h3 hp
 ·obtain rfl : j = xs.length := by simp at hj; omega
  rw [at_last]
  refine ⟨⟨h0, by omega⟩, fun hp => ?_⟩
  have e : ((xs.length : Int) - 1) = ((xs.length - 1 : Nat) : Int) := by omega
  rw [e, at_append_left xs [w] (xs.length - 1) om]
  exact (h _ om).1.2
theorem ValidP_mem {xs : List Int} {w x : Int} (h : ValidP xs w) (hx : x ∈ xs) : 0 ≤ x ∧ x < w := by
 obtain ⟨j, hj, he⟩ := mem_at hx
 rw [← he]; exact (h j hj).1
theorem ValidP_of {xs : List Int} {w n : Int} (h : ValidP xs w) (hl : xs.length ≤ w.toNat) (hw : w ≤ n ∨ w = 0) : ValidP xs n := by
 rcases hw with hw | hw
 ·exact ValidP_mono h hw
 ·subst hw
  have : xs = [] := List.eq_nil_of_length_eq_zero (by simpa using hl)
  subst this; exact ValidP_nil n
theorem Set_base {b : Nat} {lv : Value} {ls : List Int} {i : Int} (hl : ∀ q, Sl κ (deck b lv q :: I) lv ls) (h0 : 0 ≤ i) {nodes : Int} (hn : nodes ≤ 1000000000) :
    CallS Tryz.prog κ 28 [.pointer (some ⟨b, 0, none⟩), I64 (nodes)] (blk b [lv, I64 (i)] 125 :: I) (fun r J => ∃ y : Option Addr × Nat × List Int × Int, (r = .slice y.1 y.2.2.1.length y.2.1 ∧ ValidP y.2.2.1 nodes ∧ (y.2.2.1.length : Int) ≤ max nodes 0 ∧ 0 ≤ y.2.2.2) ∧ J = [vc 3 (.slice y.1 y.2.2.1.length y.2.1) y.2.2.1] ++ deck b lv y.2.2.2 :: I) := by
 refine Ce2 Tryz.func28 rfl rfl ?_
 refine Ah (Ga rfl (Af (Ah (Ga rfl (Af (As (Ah (Ga rfl (Af (A3 (Bx (σ := Int × Int × (Option Addr) × Nat × (List Int)) (fun s => ([(0, .pointer (some ⟨b, 0, none⟩)), (1, I64 (nodes)), (5, .slice s.2.2.1 s.2.2.2.2.length s.2.2.2.1), (6, I64 (s.1))] : Env)) (fun s => vc 3 (.slice s.2.2.1 s.2.2.2.2.length s.2.2.2.1) (s.2.2.2.2) :: blk b [lv, I64 (s.2.1)] 125 :: I) (fun s => (0 ≤ s.1 ∧ (s.1 ≤ nodes ∨ s.1 = 0)) ∧ (0 ≤ s.2.1) ∧ (ValidP s.2.2.2.2 s.1) ∧ (s.2.2.2.2.length ≤ s.1.toNat)) (fun s => (nodes - s.1).toNat) (0, i, none, 0, []) (show (0 ≤ (0 : Int) ∧ ((0 : Int) ≤ nodes ∨ (0 : Int) = 0)) ∧ (0 ≤ (i : Int)) ∧ (ValidP ([] : List Int) (0 : Int)) ∧ (([] : List Int).length ≤ (0 : Int).toNat) from ⟨⟨by omega, .inr rfl⟩, om, (ValidP_nil _), (Nat.le_refl _)⟩) (Aa rfl (Aa rfl (Aa (Cy rfl (by first | rfl | simp)) (Aa Ci Bj)))) (show Fit κ _ (vc 3 (.slice (none) ([]).length (0)) (([])) :: blk b [lv, I64 ((i))] 125 :: I) from (Bv _ _)) ?_)))))))))))
 rintro ⟨w, q, a, c, out⟩ hp
 dsimp only at hp ⊢
 obtain ⟨hw, hq, hv, hol⟩ := hp
 refine As (Ah (Gm rfl (Gm rfl (Gr (A8 rfl rfl) (Af (A7 rfl (fun c9 => ?_) (fun c9 => ?_)))))))
 ·refine A4 (Aj (As (A3 (Ah (Gm rfl (G.e (Am call19 rfl rfl (Next_ok (by repeat (first | exact AtF.head _ _ | apply AtF.tail)) (B4 (hl _) Ax) om om)) ?_))))))
  rintro _ _ ⟨_, _, ⟨x1, i2, rfl, hx1, hi2, rfl⟩, rfl, rfl⟩
  show G Tryz.prog κ _ _ _ _ ([(13, I64 (x1)), (12, .pointer (some ⟨b, 0, none⟩)), (9, .bool (decide (w < nodes))), (8, I64 (nodes)), (7, I64 (w)), (0, .pointer (some ⟨b, 0, none⟩)), (1, I64 (nodes)), (5, .slice a out.length c), (6, I64 (w))] : Env) (vc 3 (.slice a out.length c) (out) :: blk b [lv, I64 (i2)] 125 :: I)
  refine Gr (Bb rfl rfl) (Af (A7 rfl (fun c14 => ?_) (fun c14 => ?_)))
  ·refine Av (Gm rfl (Gm rfl (Ge1 (B5 (α := Int) (cs := [_]) (xs := [w]) Ab ty3 rfl rfl dc dc rfl rfl rfl rfl) fun ad3 => ?_)))
   refine Ge2 (Ce (α := Int) (e := 3) (xs := out) (ys := ([w] : List Int)) Ab ty3 rfl rfl rfl mm Bc lcn dc rfl (fun _ _ => am)) fun ad4 cp5 => ?_
   exact Ga rfl (Bh (Ai (Aj (Ap (S4 5 0 1 6 rfl rfl rfl rfl) (Av (Gm rfl (Gr (Rad rfl rfl) (Ga rfl (Bh (B3 ((w + 1), (i2), (ad4), (cp5), (out ++ ([w] : List Int))) (by dsimp only; exact ⟨om, om, (by first | exact ValidP_push hv hw.1 | exact ValidP_mono hv om), olp⟩)))))))))))
  ·exact A4 (Ai (Aj (Av (Gm rfl (Gr (Rad rfl rfl) (Ga rfl (Bh (B3 ((w + 1), (i2), (a), (c), (out)) (by dsimp only; exact ⟨om, om, (by first | exact ValidP_push hv hw.1 | exact ValidP_mono hv om), olp⟩)))))))))
 ·exact Bt (Ao (Ao (A5 (Aj (Ah (Gm rfl (Ga rfl (Af (Ay (A1 rfl rfl (_) Ax ⟨(a, c, out, q), ⟨rfl, ValidP_of hv hol hw.2, by show (out.length : Int) ≤ max nodes 0; omega, hq⟩, rfl⟩))))))))))
theorem Set_at {F : Item → List Item} {b : Nat} {lv : Value} {ls : List Int} {i : Int} (hat : AtF I (deck b lv i) F) (hl : ∀ q, Sl κ (F (deck b lv q)) lv ls) (h0 : 0 ≤ i) {nodes : Int} (hn : nodes ≤ 1000000000) :
  CallS Tryz.prog κ 28 [.pointer (some ⟨b, 0, none⟩), I64 nodes] I fun r J => ∃ a c out i', r = .slice a out.length c ∧ ValidP out nodes ∧ (out.length : Int) ≤ max nodes 0 ∧ 0 ≤ i' ∧ J = vc 3 (.slice a out.length c) out :: F (deck b lv i') :=
 (D3 (Post := fun r (y : Option Addr × Nat × List Int × Int) => r = .slice y.1 y.2.2.1.length y.2.1 ∧ ValidP y.2.2.1 nodes ∧ (y.2.2.1.length : Int) ≤ max nodes 0 ∧ 0 ≤ y.2.2.2) (Z := fun y : Option Addr × Nat × List Int × Int => [vc 3 (.slice y.1 y.2.2.1.length y.2.1) y.2.2.1]) (X := fun y : Option Addr × Nat × List Int × Int => deck b lv y.2.2.2) hat fun J _ hF => Set_base (fun q => (hl q).fit (hF _)) h0 hn).mono fun _ _ ⟨y, ⟨h1, h2, h3, h4⟩, h5⟩ => ⟨y.1, y.2.1, y.2.2.1, y.2.2.2, h1, h2, h3, h4, h5⟩
structure Arc where
 frm : Int
 dst : Int
 cap : Int
deriving Inhabited
instance : Enc Arc := ⟨fun a => [I64 a.frm, I64 a.dst, I64 a.cap], 3, by omega, fun _ => rfl, fun a u h => by
 simp only [List.mem_cons, List.not_mem_nil, or_false] at h
 rcases h with rfl | rfl | rfl <;> rfl⟩
structure Net where
 nodes : Int
 source : Int
 sink : Int
 arcs : List Arc
structure Net.Ok (n : Net) : Prop where
 lim : n.nodes ≤ 4200 ∧ n.arcs.length ≤ 16384
 two : 2 ≤ n.nodes
 src : 0 ≤ n.source ∧ n.source < n.nodes
 snk : 0 ≤ n.sink ∧ n.sink < n.nodes
 ne : n.source ≠ n.sink
 arc : ∀ a ∈ n.arcs, (0 ≤ a.frm ∧ a.frm < n.nodes) ∧ (0 ≤ a.dst ∧ a.dst < n.nodes) ∧ a.frm ≠ a.dst ∧ 0 ≤ a.cap ∧ a.cap ≤ 1099511627776
variable {κ : Ctx} {I : List Item}
theorem MkGraph_base {b : Nat} {lv : Value} {ls : List Int} {i : Int} {most : Int} (hl : ∀ q, Sl κ (deck b lv q :: I) lv ls) (h0 : 0 ≤ i)  (hm : 0 ≤ most ∧ most ≤ 20) :
    CallS Tryz.prog κ 25 [.pointer (some ⟨b, 0, none⟩), I64 (most)] (blk b [lv, I64 (i)] 125 :: I) (fun r J => ∃ y : Int × (Option Addr) × Nat × (List Pt) × Int, ((r = .agg #[I64 y.1, .slice y.2.1 y.2.2.2.1.length y.2.2.1] ∧ (y.1 ≤ most ∧ GrOk y.1 y.2.2.2.1 ∧ y.2.2.2.1.length ≤ 400)) ∧ 0 ≤ y.2.2.2.2) ∧ J = [vc 135 (.slice y.2.1 y.2.2.2.1.length y.2.2.1) y.2.2.2.1] ++ deck b lv y.2.2.2.2 :: I) := by
 refine Ce2 Tryz.func25 rfl rfl ?_
 refine Ah (Ge1 (Ba ty48 rfl) fun b1 => Af (Ah (Gm rfl (Gm rfl (Gr (Rad rfl rfl) (G.e (Am call19 rfl rfl (Next_ok (by repeat (first | exact AtF.head _ _ | apply AtF.tail)) (B4 (hl _) Ax) om om)) ?_))))))
 rintro _ _ ⟨_, _, ⟨x2, i3, rfl, hx2, hi3, rfl⟩, rfl, rfl⟩
 show G Tryz.prog κ _ _ _ _ ([(12, I64 (x2)), (11, I64 (most + 1)), (10, I64 (most)), (9, .pointer (some ⟨b, 0, none⟩)), (4, .pointer (some ⟨b1, 0, none⟩)), (0, .pointer (some ⟨b, 0, none⟩)), (1, I64 (most))] : Env) (blk b1 [I64 (0), .slice none 0 0] 48 :: blk b [lv, I64 (i3)] 125 :: I)
 refine Gr (Bf (cells := [_, _]) ty48 Tryz.underlying48 pl48 rfl rfl) (Ge1 (Ba ty48 rfl) fun b4 => Ge0 (Co ty48) ?_)
 refine Af (W.cut (σ := Int × Int) (fun s => ([(0, .pointer (some ⟨b, 0, none⟩)), (4, .pointer (some ⟨b1, 0, none⟩)), (5, .pointer (some ⟨b4, 0, none⟩))] : Env)) (fun s => blk b4 [I64 (s.1), .slice none 0 0] 48 :: blk b1 [I64 (0), .slice none 0 0] 48 :: blk b [lv, I64 (s.2)] 125 :: I) (fun s => (0 ≤ s.1 ∧ s.1 ≤ most) ∧ (0 ≤ s.2)) ?_ ?_)
 ·refine Ah (Gf fld48_0 rfl (Gl ty3 ?_))
  refine Gr (A8 rfl rfl) (Af (A7 rfl (fun c16 => ?_) (fun c16 => ?_)))
  ·refine Bk mixed (Bp (blk b4 [I64 (x2), .slice none 0 0] 48 :: blk b1 [I64 (0), .slice none 0 0] 48 :: I) 10 (Dr 0 rfl (Ad rfl) (Dr 1 rfl (Ac fld48_0 rfl) (Dr 2 rfl (Au ty3) ?_))))
   refine Dr 3 rfl (Ad rfl) (Dr 4 rfl (Ad rfl) (Dr 5 rfl (Rad rfl rfl) (Ds1 6 (Se rfl (Am call19 rfl rfl (Next_ok (by repeat (first | exact AtF.head _ _ | apply AtF.tail)) (B4 (hl _) Ax) om om)) ?_))))
   rintro _ _ ⟨_, _, ⟨x5, i6, rfl, hx5, hi6, rfl⟩, rfl, rfl⟩
   refine ⟨A2, ?_⟩
   show D Tryz.prog κ _ _ _ _ _ _ _ ([(23, I64 (x5)), (22, I64 (most + 1)), (21, I64 (most)), (20, .pointer (some ⟨b, 0, none⟩)), (19, I64 (x2)), (18, .pointer (some ⟨b4, 0, none⟩)), (17, I64 (most)), (16, .bool (decide (x2 < 4))), (15, I64 (x2)), (14, .pointer (some ⟨b4, 0, none⟩)), (5, .pointer (some ⟨b4, 0, none⟩)), (13, .agg #[I64 (x2), .slice none 0 0]), (12, I64 (x2)), (11, I64 (most + 1)), (10, I64 (most)), (9, .pointer (some ⟨b, 0, none⟩)), (4, .pointer (some ⟨b1, 0, none⟩)), (0, .pointer (some ⟨b, 0, none⟩)), (1, I64 (most))] : Env) (blk b4 [I64 (x2), .slice none 0 0] 48 :: blk b1 [I64 (0), .slice none 0 0] 48 :: blk b [lv, I64 (i6)] 125 :: I)
   refine Dr 7 rfl (Rad rfl rfl) (Dr 8 rfl (Er rfl rfl) (Dr 9 rfl (Ac fld48_0 rfl) (C4 kr ?_)))
   refine Ae 10 rfl (Es2_1 ty3) ?_
   rintro _ _ ⟨rfl, rfl⟩
   refine C5 kr ?_
   exact D0 ((if (x2 + x5) < most then (x2 + x5) else most), (i6)) (by dsimp only; exact ⟨(by refine ⟨?_, ?_⟩ <;> first | omega | (split <;> omega)), om⟩)
  ·exact A4 (D0 ((x2), (i3)) (by dsimp only; exact ⟨(by refine ⟨?_, ?_⟩ <;> first | omega | (split <;> omega)), om⟩))
 ·rintro ⟨nd, iqz⟩ hp
  obtain ⟨hnd, hiqz⟩ : (0 ≤ nd ∧ nd ≤ most) ∧ (0 ≤ iqz) := hp
  show W Tryz.prog κ 58 _ _ ([(0, .pointer (some ⟨b, 0, none⟩)), (4, .pointer (some ⟨b1, 0, none⟩)), (5, .pointer (some ⟨b4, 0, none⟩))] : Env) (blk b4 [I64 (nd), .slice none 0 0] 48 :: blk b1 [I64 (0), .slice none 0 0] 48 :: blk b [lv, I64 (iqz)] 125 :: I)
  refine Ah (Gm rfl (G.e (Am call19 rfl rfl (Next_ok (by repeat (first | exact AtF.head _ _ | apply AtF.tail)) (B4 (hl _) Ax) om om)) ?_))
  rintro _ _ ⟨_, _, ⟨x7, i8, rfl, hx7, hi8, rfl⟩, rfl, rfl⟩
  show G Tryz.prog κ _ _ _ _ ([(28, I64 (x7)), (27, .pointer (some ⟨b, 0, none⟩)), (0, .pointer (some ⟨b, 0, none⟩)), (4, .pointer (some ⟨b1, 0, none⟩)), (5, .pointer (some ⟨b4, 0, none⟩))] : Env) (blk b4 [I64 (nd), .slice none 0 0] 48 :: blk b1 [I64 (0), .slice none 0 0] 48 :: blk b [lv, I64 (i8)] 125 :: I)
  refine Gr (Rad rfl rfl) (Ga rfl (Af (As (Ah (Ga rfl (Af (A3 (Bx (σ := Int × Int × (Option Addr) × Nat × (List Pt)) (fun s => ([(0, .pointer (some ⟨b, 0, none⟩)), (4, .pointer (some ⟨b1, 0, none⟩)), (5, .pointer (some ⟨b4, 0, none⟩)), (6, I64 (1 + x7)), (7, I64 (s.1))] : Env)) (fun s => vc 135 (.slice s.2.2.1 s.2.2.2.2.length s.2.2.2.1) (s.2.2.2.2) :: blk b4 [I64 (nd), .slice s.2.2.1 s.2.2.2.2.length s.2.2.2.1] 48 :: blk b1 [I64 (0), .slice none 0 0] 48 :: blk b [lv, I64 (s.2.1)] 125 :: I) (fun s => (0 ≤ s.1 ∧ s.1 ≤ nd) ∧ (0 ≤ s.2.1) ∧ (GI nd s.2.2.2.2 s.1 0) ∧ ((s.2.2.2.2.length : Int) ≤ s.1 * 20)) (fun s => (nd - s.1).toNat) (0, i8, none, 0, []) (show (0 ≤ (0 : Int) ∧ (0 : Int) ≤ nd) ∧ (0 ≤ (i8 : Int)) ∧ (GI nd ([] : List Pt) (0 : Int) 0) ∧ ((([] : List Pt).length : Int) ≤ (0 : Int) * 20) from ⟨om, om, GI.start, (by simp)⟩) (Aa rfl (Aa rfl (Aa rfl (Aa rfl (Aa Ci Bj))))) (show Fit κ _ (vc 135 (.slice (none) ([]).length (0)) (([])) :: blk b4 [I64 (nd), .slice (none) ([]).length (0)] 48 :: blk b1 [I64 (0), .slice none 0 0] 48 :: blk b [lv, I64 ((i8))] 125 :: I) from (Bv _ _)) ?_))))))))
  rintro ⟨u, iqa, a, c, es⟩ hp
  dsimp only at hp ⊢
  obtain ⟨hu, hiqa, hG, hlen⟩ := hp
  refine As (Ah (Gm rfl (Gf fld48_0 rfl (Gl ty3 ?_))))
  refine Gr (A8 rfl rfl) (Af (A7 rfl (fun c33 => ?_) (fun c33 => ?_)))
  ·refine A4 (Aj (As (A3 (Ah (Gm rfl (Gr (Rad rfl rfl) (Ga rfl (Af (A3 (Bx (σ := Int × Int × (Option Addr) × Nat × (List Pt)) (fun s => ([(0, .pointer (some ⟨b, 0, none⟩)), (4, .pointer (some ⟨b1, 0, none⟩)), (5, .pointer (some ⟨b4, 0, none⟩)), (6, I64 (1 + x7)), (7, I64 (u)), (8, I64 (s.1))] : Env)) (fun s => vc 135 (.slice s.2.2.1 s.2.2.2.2.length s.2.2.2.1) (s.2.2.2.2) :: blk b4 [I64 (nd), .slice s.2.2.1 s.2.2.2.2.length s.2.2.2.1] 48 :: blk b1 [I64 (0), .slice none 0 0] 48 :: blk b [lv, I64 (s.2.1)] 125 :: I) (fun s => (u + 1 ≤ s.1 ∧ s.1 ≤ nd) ∧ (0 ≤ s.2.1) ∧ (GI nd s.2.2.2.2 u s.1) ∧ ((s.2.2.2.2.length : Int) ≤ u * 20 + s.1)) (fun s => (nd - s.1).toNat) (u + 1, iqa, a, c, es) (show (u + 1 ≤ (u + 1 : Int) ∧ (u + 1 : Int) ≤ nd) ∧ (0 ≤ (iqa : Int)) ∧ (GI nd (es : List Pt) u (u + 1 : Int)) ∧ (((es : List Pt).length : Int) ≤ u * 20 + (u + 1 : Int)) from ⟨om, om, (hG.mono om), om⟩) (Aa rfl (Aa rfl (Aa rfl (Aa rfl (Aa rfl (Aa Ci Bj)))))) (show Fit κ _ (vc 135 (.slice (a) (es).length (c)) ((es)) :: blk b4 [I64 (nd), .slice (a) (es).length (c)] 48 :: blk b1 [I64 (0), .slice none 0 0] 48 :: blk b [lv, I64 ((iqa))] 125 :: I) from A2) ?_))))))))))
   rintro ⟨v, iqb, a2, c2, es2⟩ hp
   dsimp only at hp ⊢
   obtain ⟨hw, hiqb, hG2, hlen2⟩ := hp
   refine As (Ah (Gm rfl (Gf fld48_0 rfl (Gl ty3 ?_))))
   refine Gr (A8 rfl rfl) (Af (A7 rfl (fun c41 => ?_) (fun c41 => ?_)))
   ·refine A4 (Aj (As (A3 (Ah (Gm rfl (G.e (Am call19 rfl rfl (Next_ok (by repeat (first | exact AtF.head _ _ | apply AtF.tail)) (B4 (hl _) Ax) om om)) ?_))))))
    rintro _ _ ⟨_, _, ⟨x9, i10, rfl, hx9, hi10, rfl⟩, rfl, rfl⟩
    show G Tryz.prog κ _ _ _ _ ([(45, I64 (x9)), (44, .pointer (some ⟨b, 0, none⟩)), (41, .bool (decide (v < nd))), (40, I64 (nd)), (39, .pointer (some ⟨b4, 0, none⟩)), (38, I64 (v)), (0, .pointer (some ⟨b, 0, none⟩)), (4, .pointer (some ⟨b1, 0, none⟩)), (5, .pointer (some ⟨b4, 0, none⟩)), (6, I64 (1 + x7)), (7, I64 (u)), (8, I64 (v))] : Env) (vc 135 (.slice a2 es2.length c2) (es2) :: blk b4 [I64 (nd), .slice a2 es2.length c2] 48 :: blk b1 [I64 (0), .slice none 0 0] 48 :: blk b [lv, I64 (i10)] 125 :: I)
    refine Gm rfl (Gr (Rsu rfl rfl) (Gr (Cd rfl rfl) (Af (Ap (S7 48 0 4 5 6 7 8 rfl rfl rfl rfl rfl rfl rfl) (A7 rfl (fun c48 => ?_) (fun c48 => ?_))))))
    ·refine Av (Gf fld48_1 rfl (Gl ty46 ?_))
     refine Gm rfl (Gm rfl (Gr (Bf (cells := [_, _]) ty135 Db pl135 rfl rfl) (Ge1 (B5 (α := Pt) (cs := [_, _]) (xs := [⟨u, v⟩]) Bo ty135 rfl rfl dc dc rfl rfl rfl rfl) fun ad11 => ?_)))
     refine Ge2 (Ce (α := Pt) (e := 135) (xs := es2) (ys := ([⟨u, v⟩] : List Pt)) Bo ty135 rfl rfl rfl mm Bc lcn dc rfl (fun _ _ => am)) fun ad12 cp13 => ?_
     refine Gf fld48_1 rfl (Ge0 (Es2_1 ty46) ?_)
     exact Bh (Ai (Aj (Ap (S6 0 4 5 6 7 8 rfl rfl rfl rfl rfl rfl) (Av (Gm rfl (Gr (Rad rfl rfl) (Ga rfl (Bh (B3 ((v + 1), (i10), (ad12), (cp13), (es2 ++ ([⟨u, v⟩] : List Pt))) (by dsimp only; exact ⟨om, om, (by first | exact hG2.push om om om | exact hG2.mono om), olp⟩))))))))))
    ·exact A4 (Ai (Aj (Av (Gm rfl (Gr (Rad rfl rfl) (Ga rfl (Bh (B3 ((v + 1), (i10), (a2), (c2), (es2)) (by dsimp only; exact ⟨om, om, (by first | exact hG2.push om om om | exact hG2.mono om), olp⟩)))))))))
   ·exact Bt (Ao (Ao (A5 (Ai (Aj (Av (Gm rfl (Gr (Rad rfl rfl) (Ga rfl (Bh (B3 ((u + 1), (iqb), (a2), (c2), (es2)) (by dsimp only; exact ⟨om, om, hG2.row, om⟩))))))))))))
  ·refine Bt (Ao (Ao (A5 (Aj (Ah (Gl2 ty48 ?_))))))
   refine Ge0 (Co ty48) ?_
   exact Af (Ay (Du rfl ty48 rfl mm rfl (vc 135 (.slice a es.length c) (es) :: blk b [lv, I64 (iqa)] 125 :: I) B6 ⟨(nd, a, c, es, iqa), ⟨⟨rfl, hnd.2, hG.ok om, by show es.length ≤ 400; omega⟩, hiqa⟩, rfl⟩))
theorem MkGraph_at {F : Item → List Item} {b : Nat} {lv : Value} {ls : List Int} {i : Int} {most : Int} (hat : AtF I (deck b lv i) F) (hl : ∀ q, Sl κ (F (deck b lv q)) lv ls) (h0 : 0 ≤ i)  (hm : 0 ≤ most ∧ most ≤ 20) :
  CallS Tryz.prog κ 25 [.pointer (some ⟨b, 0, none⟩), I64 (most)] I fun r J => ∃ y : Int × (Option Addr) × Nat × (List Pt) × Int, ((r = .agg #[I64 y.1, .slice y.2.1 y.2.2.2.1.length y.2.2.1] ∧ (y.1 ≤ most ∧ GrOk y.1 y.2.2.2.1 ∧ y.2.2.2.1.length ≤ 400)) ∧ 0 ≤ y.2.2.2.2) ∧ J = [vc 135 (.slice y.2.1 y.2.2.2.1.length y.2.2.1) y.2.2.2.1] ++ F (deck b lv y.2.2.2.2) :=
 D3 (Post := fun r (y : Int × (Option Addr) × Nat × (List Pt) × Int) => (r = .agg #[I64 y.1, .slice y.2.1 y.2.2.2.1.length y.2.2.1] ∧ (y.1 ≤ most ∧ GrOk y.1 y.2.2.2.1 ∧ y.2.2.2.1.length ≤ 400)) ∧ 0 ≤ y.2.2.2.2) (Z := fun y : Int × (Option Addr) × Nat × (List Pt) × Int => [vc 135 (.slice y.2.1 y.2.2.2.1.length y.2.2.1) y.2.2.2.1]) (X := fun y : Int × (Option Addr) × Nat × (List Pt) × Int => deck b lv y.2.2.2.2) hat fun J _ hF => MkGraph_base (fun q => (hl q).fit (hF _)) h0  hm
end Go.Sl
namespace Go.Sl
open Go.Proofs Go.Shelf Go.RowKit Go.Lib Go.Sort
section
variable {α : Type} [Enc α] [Inhabited α]
theorem flat_cells (d : Array α) : flatK Enc.enc (Enc.sz α) d = (cells d.toList).toArray := by
 apply Array.ext
 ·simp [cells_length]
 ·intro t h1 h2
  have h1' : t < d.size * Enc.sz α := by simpa using h1
  have hpos : 0 < Enc.sz α := Enc.pos
  have hi : t / Enc.sz α < d.size := Nat.div_lt_of_lt_mul (by rw [Nat.mul_comm]; exact h1')
  have hj : t % Enc.sz α < Enc.sz α := Nat.mod_lt _ hpos
  have e1 : t = t / Enc.sz α * Enc.sz α + t % Enc.sz α := by rw [Nat.mul_comm]; exact (Nat.div_add_mod t (Enc.sz α)).symm
  have e2 := cells_get d.toList (t / Enc.sz α) (t % Enc.sz α) (by simpa using hi) hj
  rw [← e1] at e2
  have e3 : (cells d.toList)[t]? = some ((cells d.toList)[t]'(by simpa using h2)) := List.getElem?_eq_getElem _
  rw [e3] at e2
  have hlen : t % Enc.sz α < (Enc.enc (d.toList[t / Enc.sz α]'(by simpa using hi))).length := by rw [Enc.len]; exact hj
  rw [List.getElem?_eq_getElem hlen] at e2
  have e4 := Option.some.inj e2
  simp only [List.getElem_toArray]
  rw [e4]
  simp [flatK, getElem!_pos, hi, Enc.len, hj]
theorem sort_base {P : Program} {ρ : Ren} {κ : Ctx} {I : List Item} (L : SlLaysF0.n6 P ρ) (aE : ∀ w, (isAgg (ρ.t 24)).run P w = .ok true w) (zE : ∀ w, (Go.sizeOf (ρ.t 24)).run P w = .ok (Enc.sz α) w) (cf : α → α → Int) (hO : SWO (ltOf cf)) (g : Nat) (cb : Array Value)
  (eg : ∀ args w, (callFunc g args).run P w = .ok (.enter g args) w) (hcmp : ∀ (x y : α) (W : World), Calls P g (#[.agg (Enc.enc x).toArray, .agg (Enc.enc y).toArray] ++ cb) W fun e w' => e = .returned (.int .i64 (cf x y)) ∧ ∃ q os', w' = grow (W.drewN q) os')
  {e : TypeId} {ad : Option Addr} {c : Nat} {xs : List α} (hc : 0 < c) (hsz : xs.length < 4611686018427387904) :
  CallS P κ (ρ.f 6) [.slice ad xs.length c, .func (.func g) #[] cb] (vc e (.slice ad xs.length c) xs :: I) fun r J => ∃ ys : List α, (r = .tuple #[] ∧ ys.Perm xs ∧ ys.Pairwise fun a b => ltOf cf b a = false) ∧ J = [] ++ vc e (.slice ad ys.length c) ys :: I := by
 intro w hs
 obtain ⟨hok, _⟩ := hs.ok _ List.mem_cons_self
 obtain ⟨a', cap', hv, hl, hnc, hcm, hcap⟩ := hok
 cases hv
 obtain ⟨b, off, cur, rfl, hb, hsize, hcur⟩ := hcap hc
 have hbw : b < w.heap.size := (Array.getElem?_eq_some_iff.1 hb).1
 have hcl := cells_length xs
 have hle : xs.length * Enc.sz α ≤ c * Enc.sz α := Nat.mul_le_mul_right _ hnc
 have hH : HoldsK Enc.enc (Enc.sz α) w b off xs.toArray := fun j hj => by
  rw [flat_cells] at hj ⊢
  have hj' : j < (cells xs).length := by simpa using hj
  have h1 := hcur j ((cells xs)[j]) (List.getElem?_eq_getElem hj')
  refine ⟨?_, by simp [World.frozen?, hb]⟩
  rw [cell_of_row w b (off + j) cur e (0, 0) hb, h1]
  simp [getElem!_pos, hj']
 have h := AnyQ.slices_SortFunc L (Enc.sz α) aE zE Enc.enc Enc.len Enc.one cf hO g cb b off c xs.toArray w eg (fun m os dk _ x y => hcmp x y _) hH hbw (by simpa using hsz)
 refine Calls.mono h ?_
 rintro e' w' ⟨rfl, d', n, os, ⟨hs1, _, hperm⟩, hsort, rfl⟩
 have hs1' : d'.size = xs.length := by simpa using hs1
 have hperm' : d'.toList.Perm xs := by
  have e1 : d'.extract 0 xs.toArray.size = d' := by rw [← hs1]; simp
  have e2 : xs.toArray.extract 0 xs.toArray.size = xs.toArray := by simp
  rw [e1, e2] at hperm
  exact hperm
 have hlen : d'.toList.length = xs.length := by simpa using hs1'
 refine ⟨_, _, rfl, ⟨d'.toList, ⟨rfl, hperm', ?_⟩, rfl⟩, ?_⟩
 ·rw [List.pairwise_iff_getElem]
  intro i j hi hj hij
  have := hsort i j (Nat.zero_le _) hij (by simpa [hs1'] using hj)
  simp only [Array.length_toList] at hi hj
  rw [getElem!_pos d' i hi, getElem!_pos d' j hj] at this
  simpa using this
 ·show Sep κ _ (vc e (.slice (some ⟨b, off, none⟩) d'.toList.length c) d'.toList :: I)
  refine hs.upd (At.head _ _ _) rfl ⟨rfl, by simp [sortWorldK, putRowK, Sort.grow]⟩ rfl (by simp [sortWorldK, putRowK]) (fun k hk hne => ?_) ?_ fun k hk => .inl ?_
  ·have hkb : k ≠ b := fun ekb => hne (by subst ekb; exact ⟨off, xs.length, c, rfl, hc⟩)
   simp only [sortWorldK, Sort.grow, putRowK, putRow, mapBlock]
   rw [Array.getElem?_append_left (by simpa using hk), Array.getElem?_modify, if_neg (fun e => hkb e.symm)]
   rfl
  ·refine ⟨_, c, rfl, cells_length _, by rw [hlen]; exact hnc, hcm, fun _ => ⟨b, off, putCells id off (flatK Enc.enc (Enc.sz α) d') cur, rfl, ?_, ?_, fun j u hj => ?_⟩⟩
   ·simp only [sortWorldK, Sort.grow, putRowK, putRow, mapBlock]
    rw [Array.getElem?_append_left (by simpa using hbw), Array.getElem?_modify, if_pos rfl]
    show (w.heap[b]?).map _ = _
    rw [hb]; rfl
   ·simpa [putCells] using hsize
   ·have hj' : j < (cells d'.toList).length := (List.getElem?_eq_some_iff.1 hj).1
    have hj2 : j < xs.length * Enc.sz α := by rw [cells_length, hlen] at hj'; exact hj'
    have hoff : off + j < cur.size := by omega
    rw [flat_cells]
    simp only [putCells, Array.getElem?_mapIdx, Array.getElem?_eq_getElem hoff, Option.map_some]
    rw [if_pos ⟨by omega, by simpa using hj'⟩, Nat.add_sub_cancel_left]
    rw [List.getElem?_eq_getElem hj'] at hj
    simpa [getElem!_pos, hj'] using hj
  ·obtain ⟨o', n', c', hv', hc'⟩ := hk
   cases hv'
   exact ⟨off, xs.length, c, rfl, hc⟩
theorem sort_any {P : Program} {ρ : Ren} {κ : Ctx} {I : List Item} (L : SlLaysF0.n6 P ρ) (aE : ∀ w, (isAgg (ρ.t 24)).run P w = .ok true w) (zE : ∀ w, (Go.sizeOf (ρ.t 24)).run P w = .ok (Enc.sz α) w) (cf : α → α → Int) (hO : SWO (ltOf cf)) (g : Nat) (cb : Array Value)
  (eg : ∀ args w, (callFunc g args).run P w = .ok (.enter g args) w) (hcmp : ∀ (x y : α) (W : World), Calls P g (#[.agg (Enc.enc x).toArray, .agg (Enc.enc y).toArray] ++ cb) W fun e w' => e = .returned (.int .i64 (cf x y)) ∧ ∃ q os', w' = grow (W.drewN q) os')
  {e : TypeId} {ad : Option Addr} {c : Nat} {xs : List α} (hsz : xs.length < 4611686018427387904) :
  CallS P κ (ρ.f 6) [.slice ad xs.length c, .func (.func g) #[] cb] (vc e (.slice ad xs.length c) xs :: I) fun r J => ∃ ys : List α, (r = .tuple #[] ∧ ys.Perm xs ∧ ys.Pairwise fun a b => ltOf cf b a = false) ∧ J = [] ++ vc e (.slice ad ys.length c) ys :: I := by
 by_cases hc : 0 < c
 ·exact sort_base L aE zE cf hO g cb eg hcmp hc hsz
 ·intro w hs
  obtain ⟨hok, _⟩ := hs.ok _ List.mem_cons_self
  obtain ⟨a', cap', hv, hl, hnc, hcm, hcap⟩ := hok
  cases hv
  obtain rfl : xs = [] := List.eq_nil_of_length_eq_zero (by omega)
  refine Calls.mono (AnyF.slices_SortFunc_none L ad c _ w) ?_
  rintro e' w' ⟨rfl, rfl⟩
  exact ⟨_, _, rfl, ⟨[], ⟨rfl, List.Perm.nil, List.Pairwise.nil⟩, rfl⟩, hs⟩
end
theorem lays_of {P : Program} {f : FuncId} {args : List Value} {v : Value} {W : World} (h : CallS P ⟨W.os, W.tape, W.output, W.drawn⟩ f args [old W.heap.size W] fun r J => r = v ∧ [old W.heap.size W] = J) :
  Calls P f args.toArray W fun e w' => e = .returned v ∧ ∃ q os', w' = Sort.grow (W.drewN q) os' := (h W (Sep.begin W)).mono fun e w' ⟨r, J, he, ⟨hv, hJ⟩, hs⟩ => by
 subst hv hJ
 refine ⟨he, w'.drawn - W.drawn, w'.heap.extract W.heap.size w'.heap.size, ?_⟩
 have hb := hs.below List.mem_cons_self
 have hok : ∀ k, k < W.heap.size → w'.heap[k]? = W.heap[k]? := (hs.ok _ List.mem_cons_self).1
 have hd := hs.tape.2
 have hheap : w'.heap = W.heap ++ w'.heap.extract W.heap.size w'.heap.size := by
  apply Array.ext_getElem?
  intro k
  by_cases hk : k < W.heap.size
  ·rw [Array.getElem?_append_left hk]; exact hok k hk
  ·rw [Array.getElem?_append_right (by omega), Array.getElem?_extract]
   have hsz := hb.size
   by_cases hk2 : k < w'.heap.size
   ·rw [if_pos (by omega)]; congr 1; omega
   ·rw [Array.getElem?_eq_none (by omega)]
    split
    ·omega
    ·rfl
 have e : W.drawn + (w'.drawn - W.drawn) = w'.drawn := by have : W.drawn ≤ w'.drawn := hd; omega
 have hos : w'.os = W.os := hs.os
 have htp : w'.tape = W.tape := hs.tape.1
 have hou : w'.output = W.output := hs.output
 obtain ⟨heap', tape', drawn', os', out'⟩ := w'
 simp only [Sort.grow, World.drewN] at *
 subst hos htp hou
 rw [e, ← hheap]
end Go.Sl
namespace Go.Proofs
def Tryz.sort321_ren : Go.Shelf.Ren := ⟨fun | 6 => 321 | 15 => 218 | 14 => 337 | 28 => 269 | 29 => 270 | 20 => 343 | 21 => 344 | 22 => 345 | 23 => 346 | 24 => 347 | 25 => 348 | 26 => 349 | 27 => 350 | 46 => 352 | 47 => 305 | 48 => 306 | 49 => 353 | 50 => 354 | 57 => 355 | n => n, fun | 22 => 109 | 24 => 146 | 25 => 279 | 3 => 3 | 39 => 181 | 0 => 0 | 53 => 291 | 55 => 175 | 4 => 4 | 46 => 285 | 45 => 284 | 50 => 273 | 5 => 5 | 9 => 9 | 66 => 320 | 70 => 324 | 76 => 346 | 77 => 259 | n => n, fun | n => n⟩
theorem Tryz.sort321 : Go.Proofs.SlLaysF0.n6 Tryz.prog Tryz.sort321_ren := {
 mixed := by kernel_rfl,
 f6 := ⟨Tryz.f321.name, by decide, Tryz.func321.trans (congrArg some (by kernel_rfl))⟩,
 f14 := ⟨Tryz.f337.name, by decide, Tryz.func337.trans (congrArg some (by kernel_rfl))⟩,
 f15 := Tryz.func218.trans (congrArg some (by kernel_rfl)),
 f20 := ⟨Tryz.f343.name, by decide, Tryz.func343.trans (congrArg some (by kernel_rfl))⟩,
 f21 := ⟨Tryz.f344.name, by decide, Tryz.func344.trans (congrArg some (by kernel_rfl))⟩,
 f22 := ⟨Tryz.f345.name, by decide, Tryz.func345.trans (congrArg some (by kernel_rfl))⟩,
 f23 := ⟨Tryz.f346.name, by decide, Tryz.func346.trans (congrArg some (by kernel_rfl))⟩,
 f24 := ⟨Tryz.f347.name, by decide, Tryz.func347.trans (congrArg some (by kernel_rfl))⟩,
 f25 := ⟨Tryz.f348.name, by decide, Tryz.func348.trans (congrArg some (by kernel_rfl))⟩,
 f26 := ⟨Tryz.f349.name, by decide, Tryz.func349.trans (congrArg some (by kernel_rfl))⟩,
 f27 := ⟨Tryz.f350.name, by decide, Tryz.func350.trans (congrArg some (by kernel_rfl))⟩,
 f28 := Tryz.func269.trans (congrArg some (by kernel_rfl)),
 f29 := Tryz.func270.trans (congrArg some (by kernel_rfl)),
 f46 := ⟨Tryz.f352.name, by decide, Tryz.func352.trans (congrArg some (by kernel_rfl))⟩,
 f47 := Tryz.func305.trans (congrArg some (by kernel_rfl)),
 f48 := Tryz.func306.trans (congrArg some (by kernel_rfl)),
 f49 := ⟨Tryz.f353.name, by decide, Tryz.func353.trans (congrArg some (by kernel_rfl))⟩,
 f50 := ⟨Tryz.f354.name, by decide, Tryz.func354.trans (congrArg some (by kernel_rfl))⟩,
 f57 := ⟨Tryz.f355.name, by decide, Tryz.func355.trans (congrArg some (by kernel_rfl))⟩,
 t0 := Tryz.underlying0,
 a0 := Tryz.isAgg0,
 z0 := Tryz.sizeOf0,
 v0 := Tryz.zeroValue0,
 t3 := Tryz.underlying3,
 a3 := Tryz.isAgg3,
 z3 := Tryz.sizeOf3,
 v3 := Tryz.zeroValue3,
 t4 := Tryz.underlying4,
 a4 := Tryz.isAgg4,
 z4 := Tryz.sizeOf4,
 v4 := Tryz.zeroValue4,
 t5 := Tryz.underlying5,
 a5 := Tryz.isAgg5,
 z5 := Tryz.sizeOf5,
 v5 := Tryz.zeroValue5,
 t9 := Tryz.underlying9,
 a9 := Tryz.isAgg9,
 z9 := Tryz.sizeOf9,
 v9 := Tryz.zeroValue9,
 t22 := Tryz.underlying109,
 a22 := Tryz.isAgg109,
 z22 := Tryz.sizeOf109,
 v22 := Tryz.zeroValue109,
 t25 := Tryz.underlying279,
 a25 := Tryz.isAgg279,
 z25 := Tryz.sizeOf279,
 v25 := Tryz.zeroValue279,
 t39 := Tryz.underlying181,
 a39 := Tryz.isAgg181,
 z39 := Tryz.sizeOf181,
 v39 := Tryz.zeroValue181,
 t45 := Tryz.underlying284,
 a45 := Tryz.isAgg284,
 z45 := Tryz.sizeOf284,
 v45 := Tryz.zeroValue284,
 t46 := Tryz.underlying285,
 a46 := Tryz.isAgg285,
 z46 := Tryz.sizeOf285,
 v46 := Tryz.zeroValue285,
 t50 := Tryz.underlying273,
 a50 := Tryz.isAgg273,
 z50 := Tryz.sizeOf273,
 v50 := Tryz.zeroValue273,
 t53 := Tryz.underlying291,
 a53 := Tryz.isAgg291,
 z53 := Tryz.sizeOf291,
 v53 := Tryz.zeroValue291,
 t55 := Tryz.underlying175,
 a55 := Tryz.isAgg175,
 z55 := Tryz.sizeOf175,
 v55 := Tryz.zeroValue175,
 t66 := Tryz.underlying320,
 a66 := Tryz.isAgg320,
 z66 := Tryz.sizeOf320,
 v66 := Tryz.zeroValue320,
 t70 := Tryz.underlying324,
 a70 := Tryz.isAgg324,
 z70 := Tryz.sizeOf324,
 v70 := Tryz.zeroValue324,
 t76 := Tryz.underlying346,
 a76 := Tryz.isAgg346,
 z76 := Tryz.sizeOf346,
 v76 := Tryz.zeroValue346,
 t77 := Tryz.underlying259,
 a77 := Tryz.isAgg259,
 z77 := Tryz.sizeOf259,
 v77 := Tryz.zeroValue259 }
end Go.Proofs
namespace Go.Sl
open Go.Proofs
set_option maxRecDepth 4000
theorem Order_ok {κ : Ctx} {I : List Item} (a c : Pt) :
    CallS Tryz.prog κ 154 [.agg #[I64 (a.u), I64 (a.v)], .agg #[I64 (c.u), I64 (c.v)]] I (fun r J => r = I64 (Pt.cmp a c) ∧ I = J) := by
 refine Ce2 Tryz.func154 rfl rfl ?_
 refine Ah (Ge1 (Be (cs := [_, _]) rfl rfl rfl) fun b1 => Ge1 (Be (cs := [_, _]) rfl rfl rfl) fun b2 => Ga rfl (Af (As (Bk mixed (Bp (blk b2 [I64 (c.u), I64 (c.v)] 135 :: blk b1 [I64 (a.u), I64 (a.v)] 135 :: I) 12 (Dr 0 rfl (Ac fld135_0 rfl) (Dr 1 rfl (Au ty3) ?_)))))))
 refine Dr 2 rfl (Ac fld135_0 rfl) (Dr 3 rfl (Au ty3) ?_)
 refine Dr 5 rfl (Ac fld135_1 rfl) (Dr 6 rfl (Au ty3) ?_)
 refine Dr 7 rfl (Ac fld135_1 rfl) (Dr 8 rfl (Au ty3) ?_)
 refine Ds1 4 (Sc0 rfl (Am call225 rfl rfl (Compare_ok a.u c.u)) ?_)
 refine Ds1 9 (Sc0 rfl (Am call225 rfl rfl (Compare_ok a.v c.v)) ?_)
 refine Ds1 10 (Se1 rfl (B5 (α := Int) (cs := [_, _]) (xs := [cmpI a.u c.u, cmpI a.v c.v]) Ab ty3 rfl rfl dc dc rfl rfl rfl rfl) fun ad3 => ?_)
 refine Ds1 11 (Sc0 rfl (Am call224 rfl rfl (Or_ok Bc)) ?_)
 refine C4 kr ?_
 refine A.read (i := 12) kr rfl (Cl rfl) rfl rfl (A9 rfl) ?_
 refine C5 kr ?_
 exact Aj (Ap (S1 4 rfl) (Ay (A1 rfl rfl (I) Ax ⟨by rw [← orL_cmp], rfl⟩)))
theorem ext_at {α : Type} [Inhabited α] {xs ys : List α} (hl : xs.length = ys.length) (h : ∀ j, j < xs.length → at_ xs (j : Int) = at_ ys (j : Int)) : xs = ys := by
 refine List.ext_getElem hl fun j h1 h2 => ?_
 have := h j h1
 rwa [Dy xs j h1, Dy ys j h2] at this
theorem Few_ok {κ : Ctx} {I : List Item} {la : Option Addr} {ln lc : Nat} :
    CallS Tryz.prog κ 16 [.slice la ln lc] I (fun r J => r = .bool (decide ((ln : Int) ≤ 500)) ∧ I = J) := by
 refine Ce1 Tryz.func16 rfl rfl ?_
 exact Ah (Ga rfl (Af (Ah (Gm rfl (Gr (Bl Ab rfl) (Gr (Dx rfl rfl) (Ga rfl (Af (Ay (A1 rfl rfl (I) Ax ⟨rfl, rfl⟩))))))))))
variable {κ : Ctx} {I : List Item}
theorem sortI_ok {e : TypeId} {ad : Option Addr} {c : Nat} {xs : List Int} (hsz : xs.length < 4611686018427387904) :
  CallS Tryz.prog κ 142 [.slice ad xs.length c] (vc e (.slice ad xs.length c) xs :: I) fun r J => r = .tuple #[] ∧ J = vc e (.slice ad xs.length c) (sortZ xs) :: I :=
 (sortI_any (κ := κ) (I := I) Tryz.sortI (e := e) (ad := ad) (c := c) hsz).mono fun r J ⟨h1, h2⟩ => ⟨h1, by rw [h2, Ec]⟩
theorem CompactI_ok {a : Option Addr} {c : Nat} {xs : List Int} (hsz : xs.length < 1000000000000) :
    CallS Tryz.prog κ 143 [.slice a xs.length c] (vc 3 (.slice a xs.length c) (xs) :: I) (fun r J => r = .slice a (compG xs xs.length).length c ∧ J = vc 3 (.slice a (compG xs xs.length).length c) (compG xs xs.length) :: I) := by
 refine B2 (vc.cap List.mem_cons_self) fun hcap => ?_
 refine Ce1 Tryz.func143 rfl rfl ?_
 refine Ah (Ga rfl (Af (As (Ah (Gm rfl (Gr (Bl Ab rfl) (Gr (A8 rfl rfl) (Af (A7 rfl (fun c8 => ?_) (fun c8 => ?_))))))))))
 ·refine Ah (Gm rfl (Ga rfl (Af (Ay (Ak ?_)))))
  have hc : compG xs xs.length = xs := (compG_take (fun j h1 h2 => by omega) (Nat.le_refl _)).trans (List.take_length)
  exact A1 rfl rfl (vc 3 (.slice a (compG xs xs.length).length c) (compG xs xs.length) :: I) (by rw [hc]; exact A2) ⟨by rw [hc], rfl⟩
 ·refine A4 (Aj (As (Ah (Ga rfl (Af (A3 (Bx (σ := Nat) (fun s => ([(0, .slice a xs.length c), (3, I64 (((s : Nat) : Int)))] : Env)) (fun s => vc 3 (.slice a xs.length c) (xs) :: I) (fun s => (1 ≤ s ∧ s ≤ xs.length) ∧ (∀ j, j < s → 0 < j → at_ xs (j : Int) ≠ at_ xs ((j : Int) - 1))) (fun s => xs.length - s) (1) (show (1 ≤ (1 : Nat) ∧ (1 : Nat) ≤ xs.length) ∧ (∀ j, j < (1 : Nat) → 0 < j → at_ xs (j : Int) ≠ at_ xs ((j : Int) - 1)) from ⟨om, (fun j h1 h2 => by omega)⟩) (Aa rfl (Aa Ci Bj)) (show Fit κ _ (vc 3 (.slice a xs.length c) (xs) :: I) from A2) ?_)))))))
  rintro k hp
  obtain ⟨hk, hne⟩ := hp
  refine As (Ah (Gm rfl (Gm rfl (Gr (Bl Ab rfl) (Gr (A8 rfl rfl) (Af (A7 rfl (fun c13 => ?_) (fun c13 => ?_))))))))
  ·refine A4 (Aj (As (A3 (As (Bk mixed (Bp (vc 3 (.slice a xs.length c) (xs) :: I) 10 (Dr 0 rfl (Ad rfl) (Dr 1 rfl (Ad rfl) (Dr 2 rfl (A0 (α := Int) (xs := xs) Ab ty3 rfl rfl Bc om (by first | omega | (simp only [List.length_drop]; omega))) (Dr 3 rfl (Br (xs := xs) ty3 rfl Bc om (by first | omega | (simp only [List.length_drop]; omega))) (Dr 4 rfl (Ad rfl) (Dr 5 rfl (Ad rfl) (Dr 6 rfl (Rsu rfl rfl) (Dr 7 rfl (A0 (α := Int) (xs := xs) Ab ty3 rfl rfl Bc om (by first | omega | (simp only [List.length_drop]; omega))) (Dr 8 rfl (Br (xs := xs) ty3 rfl Bc om (by first | omega | (simp only [List.length_drop]; omega))) (Dr 9 rfl (Bb rfl rfl) (Dz (Aj (Ap (S3 25 0 3 rfl rfl rfl) (A7 rfl (fun c25 => ?_) (fun c25 => ?_)))))))))))))))))))))
   ·refine Ah (Gm rfl (Gm rfl (Gr (D7 (α := Int) (xs := xs) (l := k) Ab ty3 rfl rfl om Bc om) (Ga rfl (Af (As (Ah (Ga rfl (Af (A3 (Bx (σ := Nat × Nat × (List Int)) (fun s => ([(0, .slice a xs.length c), (3, I64 (((s.1 : Nat) : Int))), (4, .slice (adrop a c k (Enc.sz Int)) (List.drop k xs).length (c - k)), (5, I64 (((s.2.1 : Nat) : Int)))] : Env)) (fun s => vc 3 (.slice a xs.length c) (s.2.2) :: I) (fun s => (1 ≤ s.2.1 ∧ k + s.2.1 ≤ xs.length) ∧ (s.2.2.length = xs.length) ∧ (1 ≤ s.1 ∧ s.1 < k + s.2.1) ∧ (s.2.2.take s.1 = compG xs (k + s.2.1)) ∧ (∀ j, k + s.2.1 ≤ j + 1 → at_ s.2.2 (j : Int) = at_ xs (j : Int))) (fun s => xs.length - (k + s.2.1)) (k, 1, xs) (show (1 ≤ (1 : Nat) ∧ k + (1 : Nat) ≤ xs.length) ∧ ((xs : List Int).length = xs.length) ∧ (1 ≤ (k : Nat) ∧ (k : Nat) < k + (1 : Nat)) ∧ ((xs : List Int).take (k : Nat) = compG xs (k + (1 : Nat))) ∧ (∀ j, k + (1 : Nat) ≤ j + 1 → at_ (xs : List Int) (j : Int) = at_ xs (j : Int)) from ⟨om, om, om, (by rw [← compG_take hne om]; simp only [compG]; rw [if_pos ⟨by omega, c25⟩]), (fun _ _ => rfl)⟩) (Aa rfl (Aa Ci (Aa rfl (Aa Ci Bj)))) (show Fit κ _ (vc 3 (.slice a xs.length c) ((xs)) :: I) from A2) ?_)))))))))))
    rintro ⟨m, q, ys⟩ hp
    dsimp only at hp ⊢
    obtain ⟨hq, hyl, hm, htk, hsame⟩ := hp
    have hdl : (List.drop k xs).length = xs.length - k := List.length_drop
    have hq1 := hsame (k + q) om
    have hq2 := hsame (k + q - 1) om
    rw [show ((k + q - 1 : Nat) : Int) = ((k + q : Nat) : Int) - 1 by omega] at hq2
    refine As (Ah (Gm rfl (Gm rfl (Gr (Bl Ab rfl) (Gr (A8 rfl rfl) (Af (A7 rfl (fun c32 => ?_) (fun c32 => ?_))))))))
    ·refine A4 (Aj (As (A3 (As (Bk mixed (Bp (vc 3 (.slice a xs.length c) (ys) :: I) 10 (Dr 0 rfl (Ad rfl) (Dr 1 rfl (Ad rfl) (Dr 2 rfl (A0 (α := Int) (xs := List.drop k ys) Ab ty3 rfl rfl (Eo Bc om (by rw [List.length_drop]; omega)) om (by first | omega | (simp only [List.length_drop]; omega))) (Dr 3 rfl (Br (xs := List.drop k ys) ty3 rfl (Eo Bc om (by rw [List.length_drop]; omega)) om (by first | omega | (simp only [List.length_drop]; omega))) (Dr 4 rfl (Ad rfl) (Dr 5 rfl (Ad rfl) (Dr 6 rfl (Rsu rfl rfl) (Dr 7 rfl (A0 (α := Int) (xs := List.drop k ys) Ab ty3 rfl rfl (Eo Bc om (by rw [List.length_drop]; omega)) om (by first | omega | (simp only [List.length_drop]; omega))) (Dr 8 rfl (Br (xs := List.drop k ys) ty3 rfl (Eo Bc om (by rw [List.length_drop]; omega)) om (by first | omega | (simp only [List.length_drop]; omega))) (Dr 9 rfl (Bw rfl rfl) (Dz (Aj (Ap (S5 44 0 3 4 5 rfl rfl rfl rfl rfl) (A7 rfl (fun c44 => ?_) (fun c44 => ?_)))))))))))))))))))))
     ·refine Ah (Gm rfl (Gm rfl (Gm rfl (Gm rfl (Gr (A0 (α := Int) (xs := List.drop k ys) Ab ty3 rfl rfl (Eo Bc om (by rw [List.length_drop]; omega)) om (by first | omega | (simp only [List.length_drop]; omega))) (Gr (Br (xs := List.drop k ys) ty3 rfl (Eo Bc om (by rw [List.length_drop]; omega)) om (by first | omega | (simp only [List.length_drop]; omega))) (Gr (A0 (α := Int) (xs := ys) Ab ty3 rfl rfl Bc om (by first | omega | (simp only [List.length_drop]; omega))) (Ge0 (Ct (α := Int) (xs := ys) (e := 3) (new := at_ (List.drop k ys) (q : Int)) ty3 rfl rfl rfl om (by first | omega | (simp only [List.length_drop]; omega)) am) ?_))))))))
      refine Af (Av (Gm rfl (Gr (Rad rfl rfl) (Ga rfl (Bh (Ai (Aj (Ap (S4 3 0 4 5 rfl rfl rfl rfl) (Av (Gm rfl (Gr (Rad rfl rfl) (Ga rfl (Bh ?_)))))))))))))
      have hd1 : at_ (List.drop k ys) (q : Int) = at_ ys ((k + q : Nat) : Int) := by rw [at_dropG _ _ _ om]; congr 1
      have hd2 : at_ (List.drop k ys) ((q : Int) - 1) = at_ ys (((k + q : Nat) : Int) - 1) := by rw [at_dropG _ _ _ om]; congr 1; omega
      have hset : List.set ys ((m : Int)).toNat (at_ (List.drop k ys) (q : Int)) = ys.set m (at_ ys ((k + q : Nat) : Int)) := by rw [← hd1]; rfl
      rw [hset]
      rw [hd1, hd2] at c44
      exact B3 ((m + 1), (q + 1), (ys.set m (at_ ys ((k + q : Nat) : Int)))) (by dsimp only; exact ⟨om, (by rw [List.length_set]; exact hyl), om, (by rw [show k + (q + 1) = k + q + 1 by omega]; exact compG_put htk om c44 hq1 hq2), (fun j hj => by rw [at_setn _ _ _ _ om, if_neg om]; exact hsame j om)⟩) (hlt := by (try dsimp only); exact (by simp only [List.length_drop] at *; omega))
     ·refine A4 (Ai (Aj (Av (Gm rfl (Gr (Rad rfl rfl) (Ga rfl (Bh ?_)))))))
      have hd1 : at_ (List.drop k ys) (q : Int) = at_ ys ((k + q : Nat) : Int) := by rw [at_dropG _ _ _ om]; congr 1
      have hd2 : at_ (List.drop k ys) ((q : Int) - 1) = at_ ys (((k + q : Nat) : Int) - 1) := by rw [at_dropG _ _ _ om]; congr 1; omega
      rw [hd1, hd2] at c44
      exact B3 ((m), (q + 1), (ys)) (by dsimp only; exact ⟨om, om, om, (by rw [show k + (q + 1) = k + q + 1 by omega]; exact compG_keep htk om c44 hq1 hq2), (fun j hj => hsame j om)⟩) (hlt := by (try dsimp only); exact (by simp only [List.length_drop] at *; omega))
    ·refine Bt (Ao (Ao (A5 (Aj (Ah (Gm rfl (Gm rfl (Gr (D7 (α := Int) (xs := ys) (l := m) Ab ty3 rfl rfl om Bc om) (Ge0 (Eff.clear (α := Int) (k := m) (xs := ys) Ab ty3 (AllOne.cons rfl AllOne.nil) rfl rfl om am) ?_)))))))))
     refine Af (Ah (Gm rfl (Gm rfl (Gr (Runs.hiraw (h := m) Ab ty3 rfl rfl om om) (Ga rfl (Af (Ap (S1 2 rfl) (Ay (Ar (Ak (Ak (Ar (Ak ?_)))))))))))))
     have hc : ys.take m = compG xs xs.length := by rw [htk]; congr 1; omega
     have hcm : (compG xs xs.length).length = m := by rw [← hc, List.length_take, hyl, Nat.min_eq_left om]
     exact A1 rfl rfl (vc 3 (.slice a (compG xs xs.length).length c) (compG xs xs.length) :: I) (by rw [← hc]; exact A2) ⟨by rw [hcm], rfl⟩
   ·exact A4 (Ai (Aj (Av (Gm rfl (Gr (Rad rfl rfl) (Ga rfl (Bh (B3 ((k + 1)) ⟨om, (Em hne (fun _ => c25))⟩))))))))
  ·refine Bt (Ao (Ao (A5 (Aj (Ah (Gm rfl (Ga rfl (Af (Ay ?_)))))))))
   have hc : compG xs xs.length = xs := (compG_take (fun j h1 h2 => hne j om h2) (Nat.le_refl _)).trans (List.take_length)
   exact A1 rfl rfl (vc 3 (.slice a (compG xs xs.length).length c) (compG xs xs.length) :: I) (by rw [hc]; exact A2) ⟨by rw [hc], rfl⟩
theorem CloneI {a : Option Addr} {c : Nat} {xs : List Int} (hl : Sl κ I (.slice a xs.length c) xs) (hb : xs.length ≤ 1000000000) :
    CallS Tryz.prog κ 284 [.slice a xs.length c] I (fun r J => ∃ a' c', r = .slice a' xs.length c' ∧ J = vc 3 (.slice a' xs.length c') xs :: I) := by
 refine B2 (p := a.isNone = true → xs = [] ∧ c = 0) (fun w hs hn => hl.isNone w hs hn) fun hnone => ?_
 refine Ce1 Tryz.func284 rfl rfl ?_
 refine Ah (Ga rfl (Af (As (Ah (Gm rfl (Gr (Runs.eqnil Ab rfl rfl) (Af (W.cond rfl (fun c4 => ?_) (fun c4 => ?_)))))))))
 ·refine Ah (Ga rfl (Af (Ay (Ak ?_))))
  obtain ⟨hx0, _⟩ := hnone c4
  subst hx0
  exact A1 rfl rfl (vc 3 (.slice none ([] : List Int).length 0) ([] : List Int) :: I) (Bv _ _) ⟨none, 0, rfl, rfl⟩
 ·refine A4 (Aj (Ah (Ge1 (Eff.bs0 (α := Int) Ab ty3 rfl) fun ad1 => ?_)))
  refine Gm rfl (Ge2 (Ce (α := Int) (e := 3) (xs := ([] : List Int)) (ys := xs) Ab ty3 rfl rfl rfl mm (Bi hl) (by simp only [List.length_nil]; omega) dc rfl (fun _ _ => am)) fun ad2 cp3 => ?_)
  exact Ga rfl (Af (Ay (A1 rfl rfl (vc 3 (.slice ad2 xs.length cp3) xs :: I) A2 ⟨ad2, cp3, rfl, rfl⟩)))
variable {κ : Ctx} {I : List Item}
structure Lk where
 u : Int
 v : Int
 w : Int
 lb : Int
 sg : Int
 tm : Int
deriving DecidableEq, Inhabited
instance : Enc Lk := ⟨fun x => [I64 x.u, I64 x.v, I64 x.w, I64 x.lb, I64 x.sg, I64 x.tm], 6, by omega, fun _ => rfl, fun x u h => by
 simp only [List.mem_cons, List.not_mem_nil, or_false] at h
 rcases h with rfl | rfl | rfl | rfl | rfl | rfl <;> rfl⟩
theorem eqt146 : EqT Tryz.prog 146 Lk := EqT.flat (fun p : Lk => [p.u, p.v, p.w, p.lb, p.sg, p.tm]) (fun _ => rfl) (fun x y h => by cases x; cases y; simpa using h) (n := 6) (fun _ => rfl) kr kr kr kr kr
structure Ev where
 kd : Int
 tm : Int
 u : Int
 v : Int
 w : Int
 lb : Int
 sg : Int
deriving DecidableEq, Inhabited
instance : Enc Ev := ⟨fun x => [I64 x.kd, I64 x.tm, I64 x.u, I64 x.v, I64 x.w, I64 x.lb, I64 x.sg], 7, by omega, fun _ => rfl, fun x u h => by
 simp only [List.mem_cons, List.not_mem_nil, or_false] at h
 rcases h with rfl | rfl | rfl | rfl | rfl | rfl | rfl <;> rfl⟩
def Lk.p (l : Lk) : Pt := ⟨l.u, l.v⟩
def Lk.cmp (a c : Lk) : Int := Pt.cmp a.p c.p
def Lk.lt (a c : Lk) : Prop := Pt.lt a.p c.p
instance : DecidableRel Lk.lt := fun a c => by unfold Lk.lt; infer_instance
def rightW (w lb sg : Int) : Prop := 1 ≤ w ∧ w ≤ 1000 ∧ 0 ≤ lb ∧ lb ≤ 15 ∧ (sg = 1 ∨ sg = -1)
instance (w lb sg : Int) : Decidable (rightW w lb sg) := by unfold rightW; infer_instance
def badL (n : Int) (l : Lk) : Int := if l.u < 0 ∨ l.v ≤ l.u ∨ n ≤ l.v then 6 else if ¬ rightW l.w l.lb l.sg then 1 else if l.tm < 0 ∨ 1048576 < l.tm then 9 else 0
def checkS (n : Int) (xs : List Lk) : Int := if n < 0 ∨ 64 < n then 1 else scanL (badL n) Lk.lt none xs
theorem badL_zero {n : Int} {l : Lk} (h1 : ¬ (l.u < 0 ∨ l.v ≤ l.u ∨ n ≤ l.v)) (h2 : rightW l.w l.lb l.sg) (h3 : ¬ (l.tm < 0 ∨ 1048576 < l.tm)) : badL n l = 0 := by
 unfold badL; rw [if_neg h1, if_neg (fun h => h h2), if_neg h3]
theorem badL_six {n : Int} {l : Lk} (h1 : l.u < 0 ∨ l.v ≤ l.u ∨ n ≤ l.v) : badL n l = 6 := by unfold badL; rw [if_pos h1]
theorem badL_one {n : Int} {l : Lk} (h1 : ¬ (l.u < 0 ∨ l.v ≤ l.u ∨ n ≤ l.v)) (h2 : ¬ rightW l.w l.lb l.sg) : badL n l = 1 := by unfold badL; rw [if_neg h1, if_pos h2]
theorem badL_nine {n : Int} {l : Lk} (h1 : ¬ (l.u < 0 ∨ l.v ≤ l.u ∨ n ≤ l.v)) (h2 : rightW l.w l.lb l.sg) (h3 : l.tm < 0 ∨ 1048576 < l.tm) : badL n l = 9 := by unfold badL; rw [if_neg h1, if_neg (fun h => h h2), if_pos h3]
def checkW (kd wd mo : Int) : Int := if kd < 1 ∨ 3 < kd then 8 else if (kd = 2 ∧ (wd < 1 ∨ 1048576 < wd)) ∨ (kd ≠ 2 ∧ wd ≠ 0) ∨ (kd = 3 ∧ (mo < 0 ∨ 2016 < mo)) ∨ (kd ≠ 3 ∧ mo ≠ 0) then 1 else 0
theorem CheckW_ok (kd wd mo : Int) :
    CallS Tryz.prog κ 78 [.agg #[I64 (kd), I64 (wd), I64 (mo)]] I (fun r J => r = I64 (checkW kd wd mo) ∧ I = J) := by
 refine Ce1 Tryz.func78 rfl rfl ?_
 refine Ah (Ge1 (Be (cs := [_, _, _]) rfl rfl rfl) fun b1 => Ga rfl (Af (Ah (Ga rfl (Ga rfl (Af (As (Ah (Gf fld31_0 rfl (Gl ty3 ?_))))))))))
 refine Af (A3 (Ah (Gr (Bb rfl rfl) (Ga rfl (Af (A7 rfl (fun c7 => ?_) (fun c7 => ?_)))))))
 ·refine A4 (Ai (Aj (As (Ah (Gf fld31_1 rfl (Gl ty3 ?_))))))
  refine Gm rfl (Gr (Bw rfl rfl) (Gm rfl (Bd (d := 37) rfl (fun g37 => ?_) (fun g37 => ?_))))
  ·exact Gpo (Gpo (Gpo (Gpo (Gr (Al rfl rfl) (Af (Ap (S1 42 rfl) (Cn rfl (Ah (Ga rfl (Af (Ay (Ak (A1 rfl rfl (I) Ax ⟨by rw [show checkW kd wd mo = 1 from by unfold checkW; split <;> first | rfl | omega | (split <;> first | rfl | omega)], rfl⟩)))))))))))))
  ·refine Gro (Ac fld31_2 rfl) (Gro (Au ty3) ?_)
   refine Gro (Ad rfl) (Gro (Bw rfl rfl) (Gr (Aq rfl rfl) (Af (Ap (S1 42 rfl) (A7 rfl (fun c42 => ?_) (fun c42 => ?_))))))
   ·exact Ah (Ga rfl (Af (Ay (Ak (A1 rfl rfl (I) Ax ⟨by rw [show checkW kd wd mo = 1 from by unfold checkW; split <;> first | rfl | omega | (split <;> first | rfl | omega)], rfl⟩)))))
   ·exact A4 (Aj (Ah (Ga rfl (Af (Ay (A1 rfl rfl (I) Ax ⟨by rw [show checkW kd wd mo = 0 from by unfold checkW; split <;> first | rfl | omega | (split <;> first | rfl | omega)], rfl⟩))))))
 ·refine Ah (Gr (Bb rfl rfl) (Ga rfl (Af (A7 rfl (fun c9 => ?_) (fun c9 => ?_)))))
  ·refine As (Ah (Gf fld31_1 rfl (Gl ty3 ?_)))
   refine Gr (A8 rfl rfl) (Gm rfl (Bd (d := 14) rfl (fun g14 => ?_) (fun g14 => ?_)))
   ·exact Gpo (Gpo (Gpo (Gr (Al rfl rfl) (Af (Ap (S3 18 4 1 rfl rfl rfl) (Cn rfl (Ah (Ga rfl (Af (Ay (Ak (Ar (Ak (A1 rfl rfl (I) Ax ⟨by rw [show checkW kd wd mo = 1 from by unfold checkW; split <;> first | rfl | omega | (split <;> first | rfl | omega)], rfl⟩))))))))))))))
   ·refine Gro (Ac fld31_1 rfl) (Gro (Au ty3) ?_)
    refine Gro (B7 rfl rfl) (Gr (Aq rfl rfl) (Af (Ap (S3 18 4 1 rfl rfl rfl) (A7 rfl (fun c18 => ?_) (fun c18 => ?_)))))
    ·exact Ah (Ga rfl (Af (Ay (Ak (Ar (Ak (A1 rfl rfl (I) Ax ⟨by rw [show checkW kd wd mo = 1 from by unfold checkW; split <;> first | rfl | omega | (split <;> first | rfl | omega)], rfl⟩)))))))
    ·refine A4 (Aj (Av (Gf fld31_1 rfl (Gl ty3 ?_))))
     refine Ga rfl (Bh (Ai (Aj (As (Ah (Gf fld31_1 rfl (Gl ty3 ?_)))))))
     refine Gm rfl (Gr (Bw rfl rfl) (Gm rfl (Bd (d := 37) rfl (fun g37 => ?_) (fun g37 => ?_))))
     ·exact Gpo (Gpo (Gpo (Gpo (Gr (Al rfl rfl) (Af (Ap (S1 42 rfl) (Cn rfl (Ah (Ga rfl (Af (Ay (Ak (A1 rfl rfl (I) Ax ⟨by rw [show checkW kd wd mo = 1 from by unfold checkW; split <;> first | rfl | omega | (split <;> first | rfl | omega)], rfl⟩)))))))))))))
     ·refine Gro (Ac fld31_2 rfl) (Gro (Au ty3) ?_)
      refine Gro (Ad rfl) (Gro (Bw rfl rfl) (Gr (Aq rfl rfl) (Af (Ap (S1 42 rfl) (A7 rfl (fun c42 => ?_) (fun c42 => ?_))))))
      ·exact Ah (Ga rfl (Af (Ay (Ak (A1 rfl rfl (I) Ax ⟨by rw [show checkW kd wd mo = 1 from by unfold checkW; split <;> first | rfl | omega | (split <;> first | rfl | omega)], rfl⟩)))))
      ·exact A4 (Aj (Ah (Ga rfl (Af (Ay (A1 rfl rfl (I) Ax ⟨by rw [show checkW kd wd mo = 0 from by unfold checkW; split <;> first | rfl | omega | (split <;> first | rfl | omega)], rfl⟩))))))
  ·refine Ah (Gr (Bb rfl rfl) (Ga rfl (Af (A7 rfl (fun c21 => ?_) (fun c21 => ?_)))))
   ·refine As (Ah (Gf fld31_2 rfl (Gl ty3 ?_)))
    refine Gr (A8 rfl rfl) (Gm rfl (Bd (d := 26) rfl (fun g26 => ?_) (fun g26 => ?_)))
    ·exact Gpo (Gpo (Gpo (Gr (Al rfl rfl) (Af (Ap (S3 30 3 1 rfl rfl rfl) (Cn rfl (Ah (Ga rfl (Af (Ay (Ak (Ar (Ak (A1 rfl rfl (I) Ax ⟨by rw [show checkW kd wd mo = 1 from by unfold checkW; split <;> first | rfl | omega | (split <;> first | rfl | omega)], rfl⟩))))))))))))))
    ·refine Gro (Ac fld31_2 rfl) (Gro (Au ty3) ?_)
     refine Gro (B7 rfl rfl) (Gr (Aq rfl rfl) (Af (Ap (S3 30 3 1 rfl rfl rfl) (A7 rfl (fun c30 => ?_) (fun c30 => ?_)))))
     ·exact Ah (Ga rfl (Af (Ay (Ak (Ar (Ak (A1 rfl rfl (I) Ax ⟨by rw [show checkW kd wd mo = 1 from by unfold checkW; split <;> first | rfl | omega | (split <;> first | rfl | omega)], rfl⟩)))))))
     ·refine A4 (Aj (Av (Gf fld31_2 rfl (Gl ty3 ?_))))
      refine Ga rfl (Bh (Ai (Aj (As (Ah (Gf fld31_1 rfl (Gl ty3 ?_)))))))
      refine Gm rfl (Gr (Bw rfl rfl) (Gm rfl (Bd (d := 37) rfl (fun g37 => ?_) (fun g37 => ?_))))
      ·exact Gpo (Gpo (Gpo (Gpo (Gr (Al rfl rfl) (Af (Ap (S1 42 rfl) (Cn rfl (Ah (Ga rfl (Af (Ay (Ak (A1 rfl rfl (I) Ax ⟨by rw [show checkW kd wd mo = 1 from by unfold checkW; split <;> first | rfl | omega | (split <;> first | rfl | omega)], rfl⟩)))))))))))))
      ·refine Gro (Ac fld31_2 rfl) (Gro (Au ty3) ?_)
       refine Gro (Ad rfl) (Gro (Bw rfl rfl) (Gr (Aq rfl rfl) (Af (Ap (S1 42 rfl) (A7 rfl (fun c42 => ?_) (fun c42 => ?_))))))
       ·exact Ah (Ga rfl (Af (Ay (Ak (A1 rfl rfl (I) Ax ⟨by rw [show checkW kd wd mo = 1 from by unfold checkW; split <;> first | rfl | omega | (split <;> first | rfl | omega)], rfl⟩)))))
       ·exact A4 (Aj (Ah (Ga rfl (Af (Ay (A1 rfl rfl (I) Ax ⟨by rw [show checkW kd wd mo = 0 from by unfold checkW; split <;> first | rfl | omega | (split <;> first | rfl | omega)], rfl⟩))))))
   ·exact Ah (Ga rfl (Af (Ap (S1 2 rfl) (Ay (Ar (Ak (A1 rfl rfl (I) Ax ⟨by rw [show checkW kd wd mo = 8 from by unfold checkW; split <;> first | rfl | omega | (split <;> first | rfl | omega)], rfl⟩)))))))
theorem RightW_ok (w lb sg : Int) :
    CallS Tryz.prog κ 251 [I64 (w), I64 (lb), I64 (sg)] I (fun r J => r = .bool (decide (rightW w lb sg)) ∧ I = J) := by
 refine Ce3 Tryz.func251 rfl rfl ?_
 refine Ah (Ga rfl (Af (Ah (Gm rfl (Gr (Cd rfl rfl) (Gm rfl (Bd (d := 9) rfl (fun g9 => ?_) (fun g9 => ?_))))))))
 ·refine Gro (Ad rfl) (Gro (Dx rfl rfl) (Gr (Al rfl rfl) (Gm rfl (Bd (d := 13) rfl (fun g13 => ?_) (fun g13 => ?_)))))
  ·refine Gro (Ad rfl) (Gro (Cd rfl rfl) (Gr (Al rfl rfl) (Gm rfl (Bd (d := 17) rfl (fun g17 => ?_) (fun g17 => ?_)))))
   ·refine Gro (Ad rfl) (Gro (Dx rfl rfl) (Gr (Al rfl rfl) (Gm rfl (Bd (d := 21) rfl (fun g21 => ?_) (fun g21 => ?_)))))
    ·refine Gro (Ad rfl) (Gro (Bb rfl rfl) (Gro (Ad rfl) (Bd (d := 24) rfl (fun g24 => ?_) (fun g24 => ?_))))
     ·exact Gpo (Gpo (Gro (Al rfl rfl) (Gr (Al rfl rfl) (Ga rfl (Af (Ap (S1 6 rfl) (Ay (A1 rfl rfl (I) Ax ⟨(by first | exact congrArg Value.bool (decide_eq_decide.2 (by unfold rightW; omega)) | exact congrArg Value.bool (decide_eq_true (by unfold rightW; omega)).symm | exact congrArg Value.bool (decide_eq_false (by unfold rightW; omega)).symm), rfl⟩))))))))
     ·exact Gro (Ad rfl) (Gro (Bb rfl rfl) (Gro (Aq rfl rfl) (Gr (Al rfl rfl) (Ga rfl (Af (Ap (S1 6 rfl) (Ay (A1 rfl rfl (I) Ax ⟨(by first | exact congrArg Value.bool (decide_eq_decide.2 (by unfold rightW; omega)) | exact congrArg Value.bool (decide_eq_true (by unfold rightW; omega)).symm | exact congrArg Value.bool (decide_eq_false (by unfold rightW; omega)).symm), rfl⟩))))))))
    ·exact Gpo (Gpo (Gpo (Gpu (Gpu (Gpo (Gr (Aq rfl rfl) (Ga rfl (Af (Ap (S1 6 rfl) (Ay (A1 rfl rfl (I) Ax ⟨(by first | exact congrArg Value.bool (decide_eq_decide.2 (by unfold rightW; omega)) | exact congrArg Value.bool (decide_eq_true (by unfold rightW; omega)).symm | exact congrArg Value.bool (decide_eq_false (by unfold rightW; omega)).symm), rfl⟩)))))))))))
   ·exact Gpo (Gpo (Gr (Aq rfl rfl) (Gm rfl (Gpo (Gpo (Gpo (Gpu (Gpu (Gpo (Gr (Aq rfl rfl) (Ga rfl (Af (Ap (S1 6 rfl) (Ay (A1 rfl rfl (I) Ax ⟨(by first | exact congrArg Value.bool (decide_eq_decide.2 (by unfold rightW; omega)) | exact congrArg Value.bool (decide_eq_true (by unfold rightW; omega)).symm | exact congrArg Value.bool (decide_eq_false (by unfold rightW; omega)).symm), rfl⟩)))))))))))))))
  ·exact Gpo (Gpo (Gr (Aq rfl rfl) (Gm rfl (Gpo (Gpo (Gr (Aq rfl rfl) (Gm rfl (Gpo (Gpo (Gpo (Gpu (Gpu (Gpo (Gr (Aq rfl rfl) (Ga rfl (Af (Ap (S1 6 rfl) (Ay (A1 rfl rfl (I) Ax ⟨(by first | exact congrArg Value.bool (decide_eq_decide.2 (by unfold rightW; omega)) | exact congrArg Value.bool (decide_eq_true (by unfold rightW; omega)).symm | exact congrArg Value.bool (decide_eq_false (by unfold rightW; omega)).symm), rfl⟩)))))))))))))))))))
 ·exact Gpo (Gpo (Gr (Aq rfl rfl) (Gm rfl (Gpo (Gpo (Gr (Aq rfl rfl) (Gm rfl (Gpo (Gpo (Gr (Aq rfl rfl) (Gm rfl (Gpo (Gpo (Gpo (Gpu (Gpu (Gpo (Gr (Aq rfl rfl) (Ga rfl (Af (Ap (S1 6 rfl) (Ay (A1 rfl rfl (I) Ax ⟨(by first | exact congrArg Value.bool (decide_eq_decide.2 (by unfold rightW; omega)) | exact congrArg Value.bool (decide_eq_true (by unfold rightW; omega)).symm | exact congrArg Value.bool (decide_eq_false (by unfold rightW; omega)).symm), rfl⟩)))))))))))))))))))))))
theorem OrderL_ok (a c : Lk) :
    CallS Tryz.prog κ 255 [.agg #[I64 (a.u), I64 (a.v), I64 (a.w), I64 (a.lb), I64 (a.sg), I64 (a.tm)], .agg #[I64 (c.u), I64 (c.v), I64 (c.w), I64 (c.lb), I64 (c.sg), I64 (c.tm)]] I (fun r J => r = I64 (Lk.cmp a c) ∧ I = J) := by
 refine Ce2 Tryz.func255 rfl rfl ?_
 refine Ah (Ge1 (Be (cs := [_, _, _, _, _, _]) rfl rfl rfl) fun b1 => Ge1 (Be (cs := [_, _, _, _, _, _]) rfl rfl rfl) fun b2 => Ga rfl (Af (As (Bk mixed (Bp (blk b2 [I64 (c.u), I64 (c.v), I64 (c.w), I64 (c.lb), I64 (c.sg), I64 (c.tm)] 146 :: blk b1 [I64 (a.u), I64 (a.v), I64 (a.w), I64 (a.lb), I64 (a.sg), I64 (a.tm)] 146 :: I) 12 (Dr 0 rfl (Ac fld146_0 rfl) (Dr 1 rfl (Au ty3) ?_)))))))
 refine Dr 2 rfl (Ac fld146_0 rfl) (Dr 3 rfl (Au ty3) ?_)
 refine Dr 5 rfl (Ac fld146_1 rfl) (Dr 6 rfl (Au ty3) ?_)
 refine Dr 7 rfl (Ac fld146_1 rfl) (Dr 8 rfl (Au ty3) ?_)
 refine Ds1 4 (Sc0 rfl (Am call225 rfl rfl (Compare_ok a.u c.u)) ?_)
 refine Ds1 9 (Sc0 rfl (Am call225 rfl rfl (Compare_ok a.v c.v)) ?_)
 refine Ds1 10 (Se1 rfl (B5 (α := Int) (cs := [_, _]) (xs := [cmpI a.u c.u, cmpI a.v c.v]) Ab ty3 rfl rfl dc dc rfl rfl rfl rfl) fun ad3 => ?_)
 refine Ds1 11 (Sc0 rfl (Am call224 rfl rfl (Or_ok Bc)) ?_)
 refine C4 kr ?_
 refine A.read (i := 12) kr rfl (Cl rfl) rfl rfl (A9 rfl) ?_
 refine C5 kr ?_
 exact Aj (Ap (S1 4 rfl) (Ay (A1 rfl rfl (I) Ax ⟨by rw [show Lk.cmp a c = Pt.cmp ⟨a.u, a.v⟩ ⟨c.u, c.v⟩ from rfl, ← orL_cmp], rfl⟩)))
theorem Lk.cmp_lt (a c : Lk) : Lk.cmp a c < 0 ↔ Lk.lt a c := Pt.cmp_lt _ _
def askE (nd : Int) (xs : List Lk) (kd wd mo nw : Int) : Int := if checkW kd wd mo ≠ 0 then checkW kd wd mo else if checkS nd xs ≠ 0 then checkS nd xs else if nw < 0 ∨ 1048576 < nw ∨ xs.any (fun x => decide (nw < x.tm)) = true then 9 else 0
theorem CheckS_ok {κ : Ctx} {I : List Item} {nd : Int} {va : Value} {xs : List Lk} (hl : Sl κ I va xs) :
    CallS Tryz.prog κ 214 [.agg #[I64 (nd), va]] I (fun r J => r = I64 (checkS nd xs) ∧ I = J) := by
 refine B2 hl.le fun hmax => ?_
 refine Ce1 Tryz.func214 rfl rfl ?_
 refine Ah (Ge1 (Be (cs := [_, _]) rfl rfl rfl) fun b1 => Ga rfl (Af (As (Ah (Gf fld111_0 rfl (Gl ty3 ?_))))))
 refine Gr (A8 rfl rfl) (Gm rfl (Bd (d := 8) rfl (fun g8 => ?_) (fun g8 => ?_)))
 ·exact Gpo (Gpo (Gpo (Gr (Al rfl rfl) (Af (Cn rfl (Ah (Ga rfl (Af (Ay (Ak (A1 rfl rfl (I) Ax ⟨by rw [show checkS nd xs = 1 from (by first | (unfold checkS; rw [if_pos om]; done) | exact hs.trans ((Dc om (by rw [badL_one om asm]; decide)).trans (badL_one om asm)))], rfl⟩)))))))))))
 ·refine Gro (Ac fld111_0 rfl) (Gro (Au ty3) ?_)
  refine Gro (B7 rfl rfl) (Gr (Aq rfl rfl) (Af (A7 rfl (fun c12 => ?_) (fun c12 => ?_))))
  ·exact Ah (Ga rfl (Af (Ay (Ak (A1 rfl rfl (I) Ax ⟨by rw [show checkS nd xs = 1 from (by first | (unfold checkS; rw [if_pos om]; done) | exact hs.trans ((Dc om (by rw [badL_one om asm]; decide)).trans (badL_one om asm)))], rfl⟩)))))
  ·refine A4 (Aj (As (Ah (Gf fld111_1 rfl (Gl ty109 ?_)))))
   refine Gr (B0 (α := Lk) (xs := xs) Aw rfl (Bi hl)) (Gm rfl (Af (Ap (S4 16 15 14 1 rfl rfl rfl rfl) (A3 (Bx (σ := Nat) (fun s => ([(1, .pointer (some ⟨b1, 0, none⟩)), (14, va), (15, I64 (((xs.length : Nat) : Int))), (16, I64 (((s : Nat) : Int)))] : Env)) (fun s => blk b1 [I64 (nd), va] 111 :: I) (fun s => (s ≤ xs.length) ∧ (checkS nd xs = scanL (badL nd) Lk.lt (prevAt xs s) (xs.drop s))) (fun s => xs.length - s) (0) (show ((0 : Nat) ≤ xs.length) ∧ (checkS nd xs = scanL (badL nd) Lk.lt (prevAt xs (0 : Nat)) (xs.drop (0 : Nat))) from ⟨om, (by unfold checkS; rw [if_neg om]; rfl)⟩) (Aa rfl (Aa rfl (Aa rfl (Aa Ci Bj)))) (show Fit κ _ (blk b1 [I64 (nd), va] 111 :: I) from A2) ?_)))))
   rintro k hp
   obtain ⟨hk, hs⟩ := hp
   refine Ah (Gr (A8 rfl rfl) (Af (As (A7 rfl (fun c17 => ?_) (fun c17 => ?_)))))
   ·refine A4 (Aj (As (A3 (Ah (Gm rfl (Gr (A0 (α := Lk) (xs := xs) Aw ty146 rfl rfl (Bi hl) om om) (Gr (Bs (α := Lk) (xs := xs) ty146 rfl (Bi hl) om om) (Ge1 (Ba ty146 rfl) fun b2 => Ga rfl (Ge0 (Dg ty146) ?_)))))))))
    refine Af (A3 (Ah (Gf fld146_0 rfl (Gl ty3 ?_))))
    refine Gr (A8 rfl rfl) (Gm rfl (Bd (d := 25) rfl (fun g25 => ?_) (fun g25 => ?_)))
    ·exact Gpo (Gpo (Gpo (Gpo (Gpo (Gr (Al rfl rfl) (Gm rfl (Gpo (Gpo (Gpo (Gpo (Gpo (Gr (Al rfl rfl) (Ga rfl (Af (Ap (S7 21 3 4 1 14 15 16 rfl rfl rfl rfl rfl rfl rfl) (Cn rfl (Ah (Ga rfl (Af (Ay (Ar (Ar (Ak (Ak (Ar (Ak (A1 rfl rfl (I) Ax ⟨by rw [show checkS nd xs = 6 from (hs.trans ((Dc om (by rw [badL_six om]; decide)).trans (badL_six om)))], rfl⟩)))))))))))))))))))))))))))
    ·refine Gro (Ac fld146_0 rfl) (Gro (Au ty3) ?_)
     refine Gro (Ac fld146_1 rfl) (Gro (Au ty3) ?_)
     refine Gro (Cd rfl rfl) (Gr (Aq rfl rfl) (Gm rfl (Bd (d := 32) rfl (fun g32 => ?_) (fun g32 => ?_))))
     ·exact Gpo (Gpo (Gpo (Gpo (Gpo (Gr (Al rfl rfl) (Ga rfl (Af (Ap (S7 21 3 4 1 14 15 16 rfl rfl rfl rfl rfl rfl rfl) (Cn rfl (Ah (Ga rfl (Af (Ay (Ar (Ar (Ak (Ak (Ar (Ak (A1 rfl rfl (I) Ax ⟨by rw [show checkS nd xs = 6 from (hs.trans ((Dc om (by rw [badL_six om]; decide)).trans (badL_six om)))], rfl⟩))))))))))))))))))))
     ·refine Gro (Ac fld146_1 rfl) (Gro (Au ty3) ?_)
      refine Gro (Ac fld111_0 rfl) (Gro (Au ty3) ?_)
      refine Gro (Cd rfl rfl) (Gr (Aq rfl rfl) (Ga rfl (Af (Ap (S7 21 3 4 1 14 15 16 rfl rfl rfl rfl rfl rfl rfl) (A7 rfl (fun c21 => ?_) (fun c21 => ?_))))))
      ·exact Ah (Ga rfl (Af (Ay (Ar (Ar (Ak (Ak (Ar (Ak (A1 rfl rfl (I) Ax ⟨by rw [show checkS nd xs = 6 from (hs.trans ((Dc om (by rw [badL_six om]; decide)).trans (badL_six om)))], rfl⟩))))))))))
      ·refine Ah (Gf fld146_2 rfl (Gl ty3 ?_))
       refine Gf fld146_3 rfl (Gl ty3 ?_)
       refine Gf fld146_4 rfl (Gl ty3 ?_)
       refine Gc0 (Am call251 rfl rfl (RightW_ok ((at_ xs (k : Int)).w) ((at_ xs (k : Int)).lb) ((at_ xs (k : Int)).sg))) ?_
       refine Gr (Dt rfl) (Ga rfl (Af (Ap (S7 39 3 4 1 14 15 16 rfl rfl rfl rfl rfl rfl rfl) (A7 rfl (fun c39 => ?_) (fun c39 => ?_)))))
       ·exact Ah (Ga rfl (Af (Ay (Ar (Ar (Ak (Ak (Ar (Ak (A1 rfl rfl (I) Ax ⟨by rw [show checkS nd xs = 1 from (by first | (unfold checkS; rw [if_pos om]; done) | exact hs.trans ((Dc om (by rw [badL_one om asm]; decide)).trans (badL_one om asm)))], rfl⟩))))))))))
       ·refine Ah (Gf fld146_5 rfl (Gl ty3 ?_))
        refine Gr (A8 rfl rfl) (Gm rfl (Bd (d := 52) rfl (fun g52 => ?_) (fun g52 => ?_)))
        ·exact Gpo (Gpo (Gpo (Gr (Al rfl rfl) (Ga rfl (Af (Ap (S7 48 3 4 1 14 15 16 rfl rfl rfl rfl rfl rfl rfl) (Cn rfl (Ah (Ga rfl (Af (Ay (Ar (Ar (Ak (Ak (Ar (Ak (A1 rfl rfl (I) Ax ⟨by rw [show checkS nd xs = 9 from (hs.trans ((Dc om (by rw [badL_nine om (by first | assumption | exact Classical.not_not.1 asm | exact Classical.byContradiction fun h => c47 (by rw [if_neg h]; decide)) om]; decide)).trans (badL_nine om (by first | assumption | exact Classical.not_not.1 asm | exact Classical.byContradiction fun h => c47 (by rw [if_neg h]; decide)) om)))], rfl⟩))))))))))))))))))
        ·refine Gro (Ac fld146_5 rfl) (Gro (Au ty3) ?_)
         refine Gro (B7 rfl rfl) (Gr (Aq rfl rfl) (Ga rfl (Af (Ap (S7 48 3 4 1 14 15 16 rfl rfl rfl rfl rfl rfl rfl) (A7 rfl (fun c48 => ?_) (fun c48 => ?_))))))
         ·exact Ah (Ga rfl (Af (Ay (Ar (Ar (Ak (Ak (Ar (Ak (A1 rfl rfl (I) Ax ⟨by rw [show checkS nd xs = 9 from (hs.trans ((Dc om (by rw [badL_nine om (by first | assumption | exact Classical.not_not.1 asm | exact Classical.byContradiction fun h => c47 (by rw [if_neg h]; decide)) om]; decide)).trans (badL_nine om (by first | assumption | exact Classical.not_not.1 asm | exact Classical.byContradiction fun h => c47 (by rw [if_neg h]; decide)) om)))], rfl⟩))))))))))
         ·refine As (Bk mixed (Bp (blk b2 [I64 ((at_ xs (k : Int)).u), I64 ((at_ xs (k : Int)).v), I64 ((at_ xs (k : Int)).w), I64 ((at_ xs (k : Int)).lb), I64 ((at_ xs (k : Int)).sg), I64 ((at_ xs (k : Int)).tm)] 146 :: blk b1 [I64 (nd), va] 111 :: I) 14 (Dr 0 rfl (Ad rfl) (Dr 1 rfl (B7 rfl rfl) (Dr 2 rfl (Ad rfl) (Do (d := 60) rfl (fun g60 => ?_) (fun g60 => ?_)))))))
          ·refine Dro 3 rfl (Ac fld111_1 rfl) (Dro 4 rfl (Au ty109) ?_)
           refine Dro 5 rfl (Ad rfl) (Dro 6 rfl (Rsu rfl rfl) (Dro 7 rfl (A0 (α := Lk) (xs := xs) Aw ty146 rfl rfl (Bi hl) om om) (Dro 8 rfl (Bs (α := Lk) (xs := xs) ty146 rfl (Bi hl) om om) (Dro 9 rfl (Bm (vs := [_, _, _, _, _, _]) ty146) ?_))))
           refine Ds1 10 (Sc0 rfl (Am call255 rfl rfl (OrderL_ok (at_ xs ((k : Int) - 1)) (at_ xs (k : Int)))) ?_)
           refine Dro 11 rfl (Cd rfl rfl) (Dr 12 rfl (Al rfl rfl) (Dr 13 rfl (A9 rfl) (Dz (Aj (Ap (S5 57 1 14 15 16 rfl rfl rfl rfl rfl) (A7 rfl (fun c57 => ?_) (fun c57 => ?_)))))))
           ·exact Ah (Ga rfl (Af (Ay (Ar (Ar (Ak (Ak (Ar (Ak (A1 rfl rfl (I) Ax ⟨by rw [show checkS nd xs = 5 from (hs.trans (scanL_order om (badL_zero om (by first | assumption | exact Classical.not_not.1 asm | exact Classical.byContradiction fun h => c47 (by rw [if_neg h]; decide)) om) om (by first | assumption | (intro h; have := (Lk.cmp_lt _ _).2 h; omega))))], rfl⟩))))))))))
           ·exact A4 (Ai (Ai (Aj (Av (Gr (Rad rfl rfl) (Gm rfl (Bh (B3 ((k + 1)) ⟨om, (hs.trans (Et om (badL_zero om (by first | assumption | exact Classical.not_not.1 asm | exact Classical.byContradiction fun h => c47 (by rw [if_neg h]; decide)) om) (fun h0 => by first | omega | exact (Lk.cmp_lt _ _).1 om | exact Classical.not_not.1 asm)))⟩))))))))
          ·exact Dpo 3 rfl (Dpo 4 rfl (Dpo 5 rfl (Dpo 6 rfl (Dpo 7 rfl (Dpo 8 rfl (Dpo 9 rfl (Dpo 10 rfl (Dpo 11 rfl (Dr 12 rfl (Aq rfl rfl) (Dr 13 rfl (A9 rfl) (Dz (Aj (Ap (S5 57 1 14 15 16 rfl rfl rfl rfl rfl) (Dj rfl (A4 (Ai (Ai (Aj (Av (Gr (Rad rfl rfl) (Gm rfl (Bh (B3 ((k + 1)) ⟨om, (hs.trans (Et om (badL_zero om (by first | assumption | exact Classical.not_not.1 asm | exact Classical.byContradiction fun h => c47 (by rw [if_neg h]; decide)) om) (fun h0 => by first | omega | exact (Lk.cmp_lt _ _).1 om | exact Classical.not_not.1 asm)))⟩)))))))))))))))))))))))
   ·exact Bt (Ao (Ao (A5 (Aj (Ah (Ga rfl (Af (Ay (A1 rfl rfl (I) Ax ⟨by rw [show checkS nd xs = 0 from (hs.trans (scanL_end om))], rfl⟩)))))))))
end Go.Sl
namespace Go.Sl
open Go.RowKit (Below)
def mp (r : Nat) (es : List MapEntry) (cl : Nat) : Item where
 fp k := k = r
 ok w := w.heap[r]? = some (.map es.toArray cl)
 loc w w' h hw := (h r rfl).trans hw
section
variable {P : Program} {κ : Ctx} {N : Frm} {Q : Exit → Act → World → Prop} {L : Env} {I J : List Item} {ops : Array Oper} {rest : List Oper}
variable {d : Option Tmp} {ty : TypeId} {ps : String} {af : Array Edge} {gd : Option (Nat × Bool)}
theorem Eff.makeMap {T dd : Nat} (hN : Nat.blt dd N.n = true) :
  Eff P κ N Q ⟨some dd, .makeMap T none, ty, ps, af, gd⟩ L I fun L' I' => ∃ r, L' = (dd, .map (some r)) :: L ∧ I' = mp r [] 0 :: I :=
 Eff.of_value rfl hN fun a w ha hs =>
  ⟨_, _, _, by simp [execOp, Instr.makeMap, Result.andThen], ⟨_, rfl, rfl⟩, hs.new (hs.alloc (.map #[] 0)) (heap_alloc_new w _) fun k hk => by obtain rfl : k = _ := hk; exact ⟨Nat.le_refl _, by simp⟩⟩
theorem Eff.insertK {x y z : Operand} {T kt et r cl : Nat} {es : List MapEntry} {kd : IntKind} {k v : Value} {I' : List Item} (ht : P.underlying T = some (.map kt et)) (hkt : P.underlying kt = some (.int kd)) (hx : evalO L x = some (.map (some r)))
  (hy : evalO L y = some k) (hz : evalO L z = some v) (hk : MapKept.IsKey (.int kd) k) (hf : Instr.findNow (.int kd) k es 0 = some none) (hat : At I (mp r es cl) (mp r (es ++ [{ key := k, val := v, born := cl }]) (cl + 1)) I') :
  Eff P κ N Q ⟨none, .insert T x y z, ty, ps, af, gd⟩ L I fun L' I'' => L' = L ∧ I'' = I' :=
 Eff.of_skip rfl fun a w ha hs => by
  have hb := (hs.ok _ hat.mem).1
  refine ⟨{ w with heap := w.heap.setIfInBounds r (.map (es ++ [({ key := k, val := v, born := cl } : MapEntry)]).toArray (cl + 1)) }, I', ?_, ⟨rfl, rfl⟩, ?_⟩
  ·simp [execOp, ha.eval hx, ha.eval hy, ha.eval hz, Instr.mapUpdate, run_underlying ht, MapKept.run_getObj_map hb, MapKept.run_checkKey hkt hk, MapKept.run_findKey hkt hf, MapKept.run_setObj_map _ hb, Result.andThen]
  ·exact hs.upd hat rfl ⟨rfl, Nat.le_refl _⟩ rfl (by simp) (fun k _ hne => (MapKept.heap_set hb).2 k fun e => hne e) (MapKept.heap_set hb).1 fun k hk => .inl hk
theorem Runs.lookupK {x y : Operand} {T kt et r cl i : Nat} {es : List MapEntry} {kd : IntKind} {k v : Value} (ht : P.underlying T = some (.map kt et)) (hkt : P.underlying kt = some (.int kd)) (hx : evalO L x = some (.map (some r)))
  (hy : evalO L y = some k) (hk : MapKept.IsKey (.int kd) k) (hm : mp r es cl ∈ J) (hf : Instr.findNow (.int kd) k es 0 = some (some (i, v))) : Runs P κ N ⟨d, .lookup T x y false, ty, ps, af, gd⟩ L J v :=
 fun a w ha hs => by
  have hb := (hs.ok _ hm).1
  simp [execOp, ha.eval hx, ha.eval hy, Instr.lookup, run_underlying ht, MapKept.run_getObj_map hb, MapKept.run_checkKey hkt hk, MapKept.run_findKey hkt hf, Result.andThen]
end
end Go.Sl
namespace Go.Sl
open Go.Proofs
set_option maxRecDepth 4000
end Go.Sl
