/- A part of the proofs of statements of this seat: contracts of functions, and the plain laws that they lean on. No conditions. -/
import Derived.Test.YtfkcohmipjhfcaaGreatDoorP20
set_option linter.unusedVariables false
set_option linter.unusedSimpArgs false
set_option linter.unusedSectionVars false
namespace Go.Sl
open Go.Proofs
set_option maxRecDepth 4000
variable {κ : Ctx} {I : List Item}
abbrev frL : List Fr := [⟨0, 1⟩, ⟨1, 2⟩, ⟨2, 3⟩, ⟨1, 1⟩, ⟨4, 3⟩, ⟨3, 2⟩, ⟨5, 4⟩, ⟨2, 1⟩]
theorem frL_ok : ∀ x ∈ frL, FrV x := by
 have h : ∀ x ∈ frL, 0 ≤ x.num ∧ x.num ≤ 1073741824 ∧ 1 ≤ x.den ∧ x.den ≤ 1073741824 ∧ gcdI x.num x.den = 1 := by decide
 exact fun x hx => ⟨(h x hx).1, (h x hx).2.1, (h x hx).2.2.1, (h x hx).2.2.2.1, (h x hx).2.2.2.2⟩
theorem frL_num : ∀ x ∈ frL, x.num ≤ 5 := by decide
theorem MkFrac_base {b : Nat} {lv : Value} {ls : List Int} {i : Int}  (hl : ∀ q, Sl κ (deck b lv q :: I) lv ls) (h0 : 0 ≤ i)   :
    CallS Tryz.prog κ 46 [.pointer (some ⟨b, 0, none⟩)] (blk b [lv, I64 (i)] 125 :: I) (fun r J => ∃ y : Int × Int × Int, ((r = .agg #[I64 y.1, I64 y.2.1] ∧ FrV ⟨y.1, y.2.1⟩ ∧ y.1 ≤ 5) ∧ 0 ≤ y.2.2) ∧ J = [] ++ deck b lv y.2.2 :: I) := by
 refine Ce1 Tryz.func46 rfl rfl ?_
 refine Ah (Ge1 (A8 ty40 rfl) fun b1 => Af (Ah (Gr (Bb (cells := [_, _]) ty40 Ca pl40 rfl rfl) (Gr (Bb (cells := [_, _]) ty40 Ca pl40 rfl rfl) (Gr (Bb (cells := [_, _]) ty40 Ca pl40 rfl rfl) (Gr (Bb (cells := [_, _]) ty40 Ca pl40 rfl rfl) (Gr (Bb (cells := [_, _]) ty40 Ca pl40 rfl rfl) (Gr (Bb (cells := [_, _]) ty40 Ca pl40 rfl rfl) (Gr (Bb (cells := [_, _]) ty40 Ca pl40 rfl rfl) (Gr (Bb (cells := [_, _]) ty40 Ca pl40 rfl rfl) (Ge1 (B3 (α := Fr) (cs := [I64 (0), I64 (1), I64 (1), I64 (2), I64 (2), I64 (3), I64 (1), I64 (1), I64 (4), I64 (3), I64 (3), I64 (2), I64 (5), I64 (4), I64 (2), I64 (1)]) (xs := [⟨0, 1⟩, ⟨1, 2⟩, ⟨2, 3⟩, ⟨1, 1⟩, ⟨4, 3⟩, ⟨3, 2⟩, ⟨5, 4⟩, ⟨2, 1⟩]) Tryz.underlying76 ty40 rfl rfl dc dc rfl kr rfl rfl) fun ad2 => ?_)))))))))))
 refine Ga rfl (Af (Ah (Gm rfl (Gm rfl (Gm rfl (Gr (Bl Tryz.underlying76 rfl) (G.e (Al call19 rfl rfl (Next_ok (by repeat (first | exact AtF.head _ _ | apply AtF.tail)) (Bx (hl _) A1) om om)) ?_)))))))
 rintro _ _ ⟨_, _, ⟨x3, i4, rfl, hx3, hi4, rfl⟩, rfl, rfl⟩
 show G Tryz.prog κ _ _ _ _ ([(17, I64 (x3)), (16, I64 (((8 : Nat) : Int))), (15, .slice ad2 8 8), (14, .pointer (some ⟨b, 0, none⟩)), (13, .slice ad2 8 8), (3, .slice ad2 8 8), (12, .slice ad2 8 8), (11, .agg #[I64 (2), I64 (1)]), (10, .agg #[I64 (5), I64 (4)]), (9, .agg #[I64 (3), I64 (2)]), (8, .agg #[I64 (4), I64 (3)]), (7, .agg #[I64 (1), I64 (1)]), (6, .agg #[I64 (2), I64 (3)]), (5, .agg #[I64 (1), I64 (2)]), (4, .agg #[I64 (0), I64 (1)]), (2, .pointer (some ⟨b1, 0, none⟩)), (0, .pointer (some ⟨b, 0, none⟩))] : Env) (vc 40 (.slice ad2 8 8) (([⟨0, 1⟩, ⟨1, 2⟩, ⟨2, 3⟩, ⟨1, 1⟩, ⟨4, 3⟩, ⟨3, 2⟩, ⟨5, 4⟩, ⟨2, 1⟩] : List Fr)) :: blk b1 [I64 (0), I64 (0)] 40 :: blk b [lv, I64 (i4)] 125 :: I)
 refine Gr (Ax (α := Fr) (xs := ([⟨0, 1⟩, ⟨1, 2⟩, ⟨2, 3⟩, ⟨1, 1⟩, ⟨4, 3⟩, ⟨3, 2⟩, ⟨5, 4⟩, ⟨2, 1⟩] : List Fr)) Tryz.underlying76 ty40 rfl rfl Be om (by first | omega | (simp only [List.length_cons, List.length_nil]; omega))) (Gr (Bp (α := Fr) (xs := ([⟨0, 1⟩, ⟨1, 2⟩, ⟨2, 3⟩, ⟨1, 1⟩, ⟨4, 3⟩, ⟨3, 2⟩, ⟨5, 4⟩, ⟨2, 1⟩] : List Fr)) ty40 rfl Be om (by first | omega | (simp only [List.length_cons, List.length_nil]; omega))) (Ge0 (Cr ty40) ?_))
 exact Af (Aq (S1 2 rfl) (Ay (Dg rfl ty40 rfl mm rfl (blk b [lv, I64 (i4)] 125 :: I) Az ⟨((at_ ([⟨0, 1⟩, ⟨1, 2⟩, ⟨2, 3⟩, ⟨1, 1⟩, ⟨4, 3⟩, ⟨3, 2⟩, ⟨5, 4⟩, ⟨2, 1⟩] : List Fr) x3).num, (at_ ([⟨0, 1⟩, ⟨1, 2⟩, ⟨2, 3⟩, ⟨1, 1⟩, ⟨4, 3⟩, ⟨3, 2⟩, ⟨5, 4⟩, ⟨2, 1⟩] : List Fr) x3).den, i4), ⟨⟨rfl, frL_ok _ (Ch (xs := frL) om (by show _ < (8 : Int); omega)), frL_num _ (Ch (xs := frL) om (by show _ < (8 : Int); omega))⟩, by show 0 ≤ i4; omega⟩, rfl⟩)))
theorem MkFrac_at {F : Item → List Item} {b : Nat} {lv : Value} {ls : List Int} {i : Int}  (hat : AtF I (deck b lv i) F) (hl : ∀ q, Sl κ (F (deck b lv q)) lv ls) (h0 : 0 ≤ i)   :
  CallS Tryz.prog κ 46 [.pointer (some ⟨b, 0, none⟩)] I fun r J => ∃ y : Int × Int × Int, ((r = .agg #[I64 y.1, I64 y.2.1] ∧ FrV ⟨y.1, y.2.1⟩ ∧ y.1 ≤ 5) ∧ 0 ≤ y.2.2) ∧ J = [] ++ F (deck b lv y.2.2) :=
 D1 (Post := fun r (y : Int × Int × Int) => (r = .agg #[I64 y.1, I64 y.2.1] ∧ FrV ⟨y.1, y.2.1⟩ ∧ y.1 ≤ 5) ∧ 0 ≤ y.2.2) (Z := fun y : Int × Int × Int => []) (X := fun y : Int × Int × Int => deck b lv y.2.2) hat fun J _ hF => MkFrac_base (fun q => (hl q).fit (hF _)) h0  
theorem one_valid {x n : Int} (h : 0 ≤ x ∧ x < n) : ValidP [x] n := fun j hj => by
 have hj2 : j < 1 := hj
 obtain rfl : j = 0 := by omega
 exact ⟨h, fun h => absurd h dc⟩
theorem MkSome_base {b : Nat} {lv : Value} {ls : List Int} {i : Int} {nodes : Int} (hl : ∀ q, Sl κ (deck b lv q :: I) lv ls) (h0 : 0 ≤ i)  (hn : 1 ≤ nodes ∧ nodes ≤ 64) :
    CallS Tryz.prog κ 49 [.pointer (some ⟨b, 0, none⟩), I64 (nodes)] (blk b [lv, I64 (i)] 125 :: I) (fun r J => ∃ y : (Option Addr) × Nat × (List Int) × Int, ((r = .slice y.1 y.2.2.1.length y.2.1 ∧ ValidP y.2.2.1 nodes ∧ (0 < y.2.2.1.length ∧ (y.2.2.1.length : Int) ≤ nodes)) ∧ 0 ≤ y.2.2.2) ∧ J = [vc 3 (.slice y.1 y.2.2.1.length y.2.1) y.2.2.1] ++ deck b lv y.2.2.2 :: I) := by
 refine Ce2 Tryz.func49 rfl rfl ?_
 refine Ah (Ga rfl (Af (Ah (Gm rfl (Gm rfl (G.e (Al call28 rfl rfl (Set_at (by repeat (first | exact AtF.head _ _ | apply AtF.tail)) (fun _ => Bx (hl _) A1) om om)) ?_))))))
 rintro _ _ ⟨_, _, ⟨ad2, cp3, o4, i1, rfl, ho4, hlo4, hi1, rfl⟩, rfl, rfl⟩
 show G Tryz.prog κ _ _ _ _ ([(8, .slice ad2 o4.length cp3), (7, I64 (nodes)), (6, .pointer (some ⟨b, 0, none⟩)), (4, .slice none 0 0), (0, .pointer (some ⟨b, 0, none⟩)), (1, I64 (nodes))] : Env) (vc 3 (.slice ad2 o4.length cp3) (o4) :: blk b [lv, I64 (i1)] 125 :: I)
 refine Ga rfl (Af (As (Ah (Gm rfl (Gr (Bl Ac rfl) (Gr (Bi rfl rfl) (Gm rfl (Bk (d := 12) rfl (fun g12 => ?_) (fun g12 => ?_)))))))))
 ·refine Gro (Ad rfl) (Gro (B0 rfl rfl) (Gr (Ao rfl rfl) (Af (Aq (S4 15 5 0 1 rfl rfl rfl rfl) (A7 rfl (fun c15 => ?_) (fun c15 => ?_))))))
  ·refine Ah (Gm rfl (Gm rfl (G.e (Al call19 rfl rfl (Next_ok (by repeat (first | exact AtF.head _ _ | apply AtF.tail)) (Bx (hl _) A1) om om)) ?_)))
   rintro _ _ ⟨_, _, ⟨x5, i6, rfl, hx5, hi6, rfl⟩, rfl, rfl⟩
   show G Tryz.prog κ _ _ _ _ ([(18, I64 (x5)), (17, I64 (nodes)), (16, .pointer (some ⟨b, 0, none⟩)), (15, .bool (decide (0 < nodes))), (5, .slice ad2 o4.length cp3), (0, .pointer (some ⟨b, 0, none⟩)), (1, I64 (nodes))] : Env) (vc 3 (.slice ad2 o4.length cp3) (o4) :: blk b [lv, I64 (i6)] 125 :: I)
   refine Ge1 (B3 (α := Int) (cs := [_]) (xs := [x5]) Ac ty3 rfl rfl dc dc rfl rfl rfl rfl) fun ad7 => ?_
   exact Ga rfl (Af (Ay (Aj (A3 rfl rfl (vc 3 (.slice ad7 1 1) (([x5] : List Int)) :: blk b [lv, I64 (i6)] 125 :: I) Az ⟨(ad7, 1, ([x5] : List Int), i6), ⟨⟨rfl, one_valid om, by show 0 < 1 ∧ ((1 : Nat) : Int) ≤ nodes; omega⟩, by show 0 ≤ i6; omega⟩, rfl⟩))))
  ·exact A2 (Ak (Ah (Gm rfl (Ga rfl (Af (Ay (A3 rfl rfl (vc 3 (.slice ad2 o4.length cp3) (o4) :: blk b [lv, I64 (i1)] 125 :: I) Az ⟨(ad2, cp3, o4, i1), ⟨⟨rfl, ho4, by show 0 < o4.length ∧ (o4.length : Int) ≤ nodes; omega⟩, by show 0 ≤ i1; omega⟩, rfl⟩)))))))
 ·exact Gpo (Gpo (Gr (Ar rfl rfl) (Af (Aq (S4 15 5 0 1 rfl rfl rfl rfl) (Di rfl (A2 (Ak (Ah (Gm rfl (Ga rfl (Af (Ay (A3 rfl rfl (vc 3 (.slice ad2 o4.length cp3) (o4) :: blk b [lv, I64 (i1)] 125 :: I) Az ⟨(ad2, cp3, o4, i1), ⟨⟨rfl, ho4, by show 0 < o4.length ∧ (o4.length : Int) ≤ nodes; omega⟩, by show 0 ≤ i1; omega⟩, rfl⟩)))))))))))))
theorem MkSome_at {F : Item → List Item} {b : Nat} {lv : Value} {ls : List Int} {i : Int} {nodes : Int} (hat : AtF I (deck b lv i) F) (hl : ∀ q, Sl κ (F (deck b lv q)) lv ls) (h0 : 0 ≤ i)  (hn : 1 ≤ nodes ∧ nodes ≤ 64) :
  CallS Tryz.prog κ 49 [.pointer (some ⟨b, 0, none⟩), I64 (nodes)] I fun r J => ∃ y : (Option Addr) × Nat × (List Int) × Int, ((r = .slice y.1 y.2.2.1.length y.2.1 ∧ ValidP y.2.2.1 nodes ∧ (0 < y.2.2.1.length ∧ (y.2.2.1.length : Int) ≤ nodes)) ∧ 0 ≤ y.2.2.2) ∧ J = [vc 3 (.slice y.1 y.2.2.1.length y.2.1) y.2.2.1] ++ F (deck b lv y.2.2.2) :=
 D1 (Post := fun r (y : (Option Addr) × Nat × (List Int) × Int) => (r = .slice y.1 y.2.2.1.length y.2.1 ∧ ValidP y.2.2.1 nodes ∧ (0 < y.2.2.1.length ∧ (y.2.2.1.length : Int) ≤ nodes)) ∧ 0 ≤ y.2.2.2) (Z := fun y : (Option Addr) × Nat × (List Int) × Int => [vc 3 (.slice y.1 y.2.2.1.length y.2.1) y.2.2.1]) (X := fun y : (Option Addr) × Nat × (List Int) × Int => deck b lv y.2.2.2) hat fun J _ hF => MkSome_base (fun q => (hl q).fit (hF _)) h0  hn
theorem al1e {n kd no lv num den : Int} (e : kd = 1) (e2 : num = 0) (e3 : den = 0) (h1 : 0 ≤ no ∧ no < n) (h2 : 0 ≤ lv ∧ lv ≤ 64) (a : Option Addr) (c : Nat) : AlOk n ⟨kd, no, lv, a, c, [], num, den⟩ := by subst e e2 e3; exact al1 h1 h2 a c
theorem al2e {n kd num den : Int} (e : kd = 2) (h : FrV ⟨num, den⟩) (a : Option Addr) (c : Nat) : AlOk n ⟨kd, 0, 0, a, c, [], num, den⟩ := by subst e; exact al2 h a c
theorem al3e {n kd num den : Int} {xs : List Int} (e : kd = 3) (h1 : 0 < xs.length ∧ (xs.length : Int) ≤ n) (hn : n ≤ 64) (h2 : ValidP xs n) (h : FrV ⟨num, den⟩) (a : Option Addr) (c : Nat) : AlOk n ⟨kd, 0, 0, a, c, xs, num, den⟩ := by subst e; exact al3' ⟨h1.1, by omega⟩ h2 h a c
theorem al4e {n kd lv : Int} (e : kd = 4) (h2 : 0 ≤ lv ∧ lv ≤ 64) (a : Option Addr) (c : Nat) : AlOk n ⟨kd, 0, lv, a, c, [], 0, 0⟩ := by subst e; exact al4 h2 a c
theorem al5e {n kd lv : Int} {xs : List Int} (e : kd = 5) (h1 : 0 < xs.length ∧ (xs.length : Int) ≤ n) (hn : n ≤ 64) (hv : ValidP xs n) (h2 : 0 ≤ lv ∧ lv ≤ 64) (a : Option Addr) (c : Nat) : AlOk n ⟨kd, 0, lv, a, c, xs, 0, 0⟩ := by subst e; exact al5 ⟨h1.1, by omega⟩ hv h2 a c
set_option maxHeartbeats 2000000 in
theorem MkAlarm_base {b : Nat} {lv : Value} {ls : List Int} {i : Int} {nodes : Int} (hl : ∀ q, Sl κ (deck b lv q :: I) lv ls) (h0 : 0 ≤ i)  (hn : 1 ≤ nodes ∧ nodes ≤ 64) :
    CallS Tryz.prog κ 26 [.pointer (some ⟨b, 0, none⟩), I64 (nodes)] (blk b [lv, I64 (i)] 125 :: I) (fun r J => ∃ y : AlV × Int, ((r = .agg #[I64 y.1.kd, I64 y.1.no, I64 y.1.lv, .slice y.1.a y.1.xs.length y.1.c, I64 y.1.num, I64 y.1.den] ∧ AlOk nodes y.1 ∧ (y.1.lv ≤ 3 ∧ y.1.num ≤ 5)) ∧ 0 ≤ y.2) ∧ J = [vc 3 (.slice y.1.a y.1.xs.length y.1.c) y.1.xs] ++ deck b lv y.2 :: I) := by
 refine Ce2 Tryz.func26 rfl rfl ?_
 refine Ah (Ge1 (A8 ty42 rfl) fun b1 => Af (Ah (Gm rfl (G.e (Al call19 rfl rfl (Next_ok (by repeat (first | exact AtF.head _ _ | apply AtF.tail)) (Bx (hl _) A1) om om)) ?_))))
 rintro _ _ ⟨_, _, ⟨x2, i3, rfl, hx2, hi3, rfl⟩, rfl, rfl⟩
 show G Tryz.prog κ _ _ _ _ ([(8, I64 (x2)), (7, .pointer (some ⟨b, 0, none⟩)), (4, .pointer (some ⟨b1, 0, none⟩)), (0, .pointer (some ⟨b, 0, none⟩)), (1, I64 (nodes))] : Env) (blk b1 [I64 (0), I64 (0), I64 (0), .slice none 0 0, I64 (0), I64 (0)] 42 :: blk b [lv, I64 (i3)] 125 :: I)
 refine Gr (Rad rfl rfl) (Gr (Bb (cells := [_, _, _, _, _, _]) ty42 Tryz.underlying42 pl42 rfl rfl) (Ge1 (A8 ty42 rfl) fun b4 => Ge0 (Dh ty42) ?_))
 refine Af (Ah (Gm rfl (Gr (Dt rfl rfl) ?_)))
 have hmx : (if 1 < nodes then nodes else 1) = nodes := by split <;> omega
 rw [hmx]
 refine Ga rfl (Af (As (Ah (Gf fld42_0 rfl (Gl ty3 ?_)))))
 refine Af (Aq (S5 14 6 5 4 0 rfl rfl rfl rfl rfl) (A0 (Ah (Gr (Bi rfl rfl) (Ga rfl (Af (A7 rfl (fun c15 => ?_) (fun c15 => ?_))))))))
 ·refine Av (Gm rfl (Gm rfl (G.e (Al call19 rfl rfl (Next_ok (by repeat (first | exact AtF.head _ _ | apply AtF.tail)) (Bx (hl _) A1) om om)) ?_)))
  rintro _ _ ⟨_, _, ⟨x5, i6, rfl, hx5, hi6, rfl⟩, rfl, rfl⟩
  show G Tryz.prog κ _ _ _ _ ([(19, I64 (x5)), (18, I64 (nodes)), (17, .pointer (some ⟨b, 0, none⟩)), (15, .bool (decide ((1 + x2) = 1))), (16, .bool (decide ((1 + x2) = 1))), (14, I64 (1 + x2)), (6, I64 (nodes)), (5, .pointer (some ⟨b4, 0, none⟩)), (4, .pointer (some ⟨b1, 0, none⟩)), (0, .pointer (some ⟨b, 0, none⟩))] : Env) (blk b4 [I64 (1 + x2), I64 (0), I64 (0), .slice none 0 0, I64 (0), I64 (0)] 42 :: blk b1 [I64 (0), I64 (0), I64 (0), .slice none 0 0, I64 (0), I64 (0)] 42 :: blk b [lv, I64 (i6)] 125 :: I)
  refine Gm rfl (G.e (Al call19 rfl rfl (Next_ok (by repeat (first | exact AtF.head _ _ | apply AtF.tail)) (Bx (hl _) A1) om om)) ?_)
  rintro _ _ ⟨_, _, ⟨x7, i8, rfl, hx7, hi8, rfl⟩, rfl, rfl⟩
  show G Tryz.prog κ _ _ _ _ ([(21, I64 (x7)), (20, .pointer (some ⟨b, 0, none⟩)), (19, I64 (x5)), (18, I64 (nodes)), (17, .pointer (some ⟨b, 0, none⟩)), (15, .bool (decide ((1 + x2) = 1))), (16, .bool (decide ((1 + x2) = 1))), (14, I64 (1 + x2)), (6, I64 (nodes)), (5, .pointer (some ⟨b4, 0, none⟩)), (4, .pointer (some ⟨b1, 0, none⟩)), (0, .pointer (some ⟨b, 0, none⟩))] : Env) (blk b4 [I64 (1 + x2), I64 (0), I64 (0), .slice none 0 0, I64 (0), I64 (0)] 42 :: blk b1 [I64 (0), I64 (0), I64 (0), .slice none 0 0, I64 (0), I64 (0)] 42 :: blk b [lv, I64 (i8)] 125 :: I)
  refine Gf fld42_1 rfl (Ge0 (Es6_1 ty3) ?_)
  refine Gf fld42_2 rfl (Ge0 (Es6_1 ty3) ?_)
  refine Bf (Ai (Ak (Aq (S2 5 4 rfl rfl) (Ah (Gl6 ty42 ?_)))))
  refine Ge0 (Dh ty42) ?_
  exact Af (Ay (Dg rfl ty42 rfl mm rfl (vc 3 (.slice none ([] : List Int).length 0) ([] : List Int) :: blk b [lv, I64 (i8)] 125 :: I) (Cj (Bt (α := Int) _ _) Az) ⟨((⟨1 + x2, x5, x7, none, 0, [], 0, 0⟩ : AlV), i8), ⟨⟨rfl, (by first | exact al1e c15 rfl rfl om om _ _ | exact al2e c24 asm _ _ | exact al4e c38 om _ _), by show x7 ≤ 3 ∧ 0 ≤ 5; omega⟩, by show 0 ≤ i8; omega⟩, rfl⟩))
 ·refine Ah (Gr (Bi rfl rfl) (Ga rfl (Af (A7 rfl (fun c24 => ?_) (fun c24 => ?_)))))
  ·refine Av (Gm rfl (G.e (Al call46 rfl rfl (MkFrac_at (by repeat (first | exact AtF.head _ _ | apply AtF.tail)) (fun _ => Bx (hl _) A1) om  )) ?_))
   rintro _ _ ⟨_, _, ⟨⟨nu9, de10, i11⟩, ⟨⟨rfl, hfnu9, hfnnu9⟩, hi11⟩, rfl⟩, rfl, rfl⟩
   show G Tryz.prog κ _ _ _ _ ([(27, .agg #[I64 (nu9), I64 (de10)]), (26, .pointer (some ⟨b, 0, none⟩)), (24, .bool (decide ((1 + x2) = 2))), (25, .bool (decide ((1 + x2) = 2))), (15, .bool (decide ((1 + x2) = 1))), (16, .bool (decide ((1 + x2) = 1))), (14, I64 (1 + x2)), (6, I64 (nodes)), (5, .pointer (some ⟨b4, 0, none⟩)), (4, .pointer (some ⟨b1, 0, none⟩)), (0, .pointer (some ⟨b, 0, none⟩))] : Env) (blk b4 [I64 (1 + x2), I64 (0), I64 (0), .slice none 0 0, I64 (0), I64 (0)] 42 :: blk b1 [I64 (0), I64 (0), I64 (0), .slice none 0 0, I64 (0), I64 (0)] 42 :: blk b [lv, I64 (i11)] 125 :: I)
   have hi11 : 0 ≤ i11 := hi11
   dsimp only at hfnu9
   dsimp only at hfnnu9
   refine Gf fld42_4 rfl (Ge0 (Eff.st (cs := [_, _, _, _, _, _]) (vs := [_, _]) (cs' := [_, _, _, _, _, _]) ty40) ?_)
   refine Bf (Ai (Ak (Ah (Gl6 ty42 ?_))))
   refine Ge0 (Dh ty42) ?_
   exact Af (Ay (Dg rfl ty42 rfl mm rfl (vc 3 (.slice none ([] : List Int).length 0) ([] : List Int) :: blk b [lv, I64 (i11)] 125 :: I) (Cj (Bt (α := Int) _ _) Az) ⟨((⟨1 + x2, 0, 0, none, 0, [], nu9, de10⟩ : AlV), i11), ⟨⟨rfl, (by first | exact al1e c15 rfl rfl om om _ _ | exact al2e c24 asm _ _ | exact al4e c38 om _ _), by show 0 ≤ 3 ∧ nu9 ≤ 5; omega⟩, by show 0 ≤ i11; omega⟩, rfl⟩))
  ·refine Ah (Gr (Bi rfl rfl) (Ga rfl (Af (A7 rfl (fun c29 => ?_) (fun c29 => ?_)))))
   ·refine Av (Gm rfl (Gm rfl (G.e (Al call49 rfl rfl (MkSome_at (by repeat (first | exact AtF.head _ _ | apply AtF.tail)) (fun _ => Bx (hl _) A1) om  om)) ?_)))
    rintro _ _ ⟨_, _, ⟨⟨ad12, cp13, sx14, i15⟩, ⟨⟨rfl, hvsx14, hlsx14⟩, hi15⟩, rfl⟩, rfl, rfl⟩
    show G Tryz.prog κ _ _ _ _ ([(33, .slice ad12 sx14.length cp13), (32, I64 (nodes)), (31, .pointer (some ⟨b, 0, none⟩)), (29, .bool (decide ((1 + x2) = 3))), (30, .bool (decide ((1 + x2) = 3))), (24, .bool (decide ((1 + x2) = 2))), (25, .bool (decide ((1 + x2) = 2))), (15, .bool (decide ((1 + x2) = 1))), (16, .bool (decide ((1 + x2) = 1))), (14, I64 (1 + x2)), (6, I64 (nodes)), (5, .pointer (some ⟨b4, 0, none⟩)), (4, .pointer (some ⟨b1, 0, none⟩)), (0, .pointer (some ⟨b, 0, none⟩))] : Env) (vc 3 (.slice ad12 sx14.length cp13) (sx14) :: blk b4 [I64 (1 + x2), I64 (0), I64 (0), .slice none 0 0, I64 (0), I64 (0)] 42 :: blk b1 [I64 (0), I64 (0), I64 (0), .slice none 0 0, I64 (0), I64 (0)] 42 :: blk b [lv, I64 (i15)] 125 :: I)
    have hi15 : 0 ≤ i15 := hi15
    dsimp only at hvsx14
    dsimp only at hlsx14
    refine Gm rfl (G.e (Al call46 rfl rfl (MkFrac_at (by repeat (first | exact AtF.head _ _ | apply AtF.tail)) (fun _ => Bx (hl _) A1) om  )) ?_)
    rintro _ _ ⟨_, _, ⟨⟨nu16, de17, i18⟩, ⟨⟨rfl, hfnu16, hfnnu16⟩, hi18⟩, rfl⟩, rfl, rfl⟩
    show G Tryz.prog κ _ _ _ _ ([(35, .agg #[I64 (nu16), I64 (de17)]), (34, .pointer (some ⟨b, 0, none⟩)), (33, .slice ad12 sx14.length cp13), (32, I64 (nodes)), (31, .pointer (some ⟨b, 0, none⟩)), (29, .bool (decide ((1 + x2) = 3))), (30, .bool (decide ((1 + x2) = 3))), (24, .bool (decide ((1 + x2) = 2))), (25, .bool (decide ((1 + x2) = 2))), (15, .bool (decide ((1 + x2) = 1))), (16, .bool (decide ((1 + x2) = 1))), (14, I64 (1 + x2)), (6, I64 (nodes)), (5, .pointer (some ⟨b4, 0, none⟩)), (4, .pointer (some ⟨b1, 0, none⟩)), (0, .pointer (some ⟨b, 0, none⟩))] : Env) (vc 3 (.slice ad12 sx14.length cp13) (sx14) :: blk b4 [I64 (1 + x2), I64 (0), I64 (0), .slice none 0 0, I64 (0), I64 (0)] 42 :: blk b1 [I64 (0), I64 (0), I64 (0), .slice none 0 0, I64 (0), I64 (0)] 42 :: blk b [lv, I64 (i18)] 125 :: I)
    have hi18 : 0 ≤ i18 := hi18
    dsimp only at hfnu16
    dsimp only at hfnnu16
    refine Gf fld42_3 rfl (Ge0 (Es6_1 ty22) ?_)
    refine Gf fld42_4 rfl (Ge0 (Eff.st (cs := [_, _, _, _, _, _]) (vs := [_, _]) (cs' := [_, _, _, _, _, _]) ty40) ?_)
    refine Bf (Ai (Ak (Aq (S2 5 4 rfl rfl) (Ah (Gl6 ty42 ?_)))))
    refine Ge0 (Dh ty42) ?_
    exact Af (Ay (Dg rfl ty42 rfl mm rfl (vc 3 (.slice ad12 sx14.length cp13) (sx14) :: blk b [lv, I64 (i18)] 125 :: I) Az ⟨((⟨1 + x2, 0, 0, ad12, cp13, sx14, nu16, de17⟩ : AlV), i18), ⟨⟨rfl, (by first | exact al3e c29 hlsx14 hn.2 hvsx14 asm _ _ | exact al5e c43 hlsx14 hn.2 hvsx14 om _ _), by show 0 ≤ 3 ∧ nu16 ≤ 5; omega⟩, by show 0 ≤ i18; omega⟩, rfl⟩))
   ·refine Ah (Gr (Bi rfl rfl) (Ga rfl (Af (A7 rfl (fun c38 => ?_) (fun c38 => ?_)))))
    ·refine Av (Gm rfl (G.e (Al call19 rfl rfl (Next_ok (by repeat (first | exact AtF.head _ _ | apply AtF.tail)) (Bx (hl _) A1) om om)) ?_))
     rintro _ _ ⟨_, _, ⟨x19, i20, rfl, hx19, hi20, rfl⟩, rfl, rfl⟩
     show G Tryz.prog κ _ _ _ _ ([(41, I64 (x19)), (40, .pointer (some ⟨b, 0, none⟩)), (38, .bool (decide ((1 + x2) = 4))), (39, .bool (decide ((1 + x2) = 4))), (29, .bool (decide ((1 + x2) = 3))), (30, .bool (decide ((1 + x2) = 3))), (24, .bool (decide ((1 + x2) = 2))), (25, .bool (decide ((1 + x2) = 2))), (15, .bool (decide ((1 + x2) = 1))), (16, .bool (decide ((1 + x2) = 1))), (14, I64 (1 + x2)), (6, I64 (nodes)), (5, .pointer (some ⟨b4, 0, none⟩)), (4, .pointer (some ⟨b1, 0, none⟩)), (0, .pointer (some ⟨b, 0, none⟩))] : Env) (blk b4 [I64 (1 + x2), I64 (0), I64 (0), .slice none 0 0, I64 (0), I64 (0)] 42 :: blk b1 [I64 (0), I64 (0), I64 (0), .slice none 0 0, I64 (0), I64 (0)] 42 :: blk b [lv, I64 (i20)] 125 :: I)
     refine Gf fld42_2 rfl (Ge0 (Es6_1 ty3) ?_)
     refine Bf (Ai (Ak (Aq (S2 5 4 rfl rfl) (Ah (Gl6 ty42 ?_)))))
     refine Ge0 (Dh ty42) ?_
     exact Af (Ay (Dg rfl ty42 rfl mm rfl (vc 3 (.slice none ([] : List Int).length 0) ([] : List Int) :: blk b [lv, I64 (i20)] 125 :: I) (Cj (Bt (α := Int) _ _) Az) ⟨((⟨1 + x2, 0, x19, none, 0, [], 0, 0⟩ : AlV), i20), ⟨⟨rfl, (by first | exact al1e c15 rfl rfl om om _ _ | exact al2e c24 asm _ _ | exact al4e c38 om _ _), by show x19 ≤ 3 ∧ 0 ≤ 5; omega⟩, by show 0 ≤ i20; omega⟩, rfl⟩))
    ·refine Ah (Gr (Bi rfl rfl) (Ga rfl (Af (Aq (S5 43 6 5 4 0 rfl rfl rfl rfl rfl) (A7 rfl (fun c43 => ?_) (fun c43 => ?_))))))
     ·refine Av (Gm rfl (Gm rfl (G.e (Al call49 rfl rfl (MkSome_at (by repeat (first | exact AtF.head _ _ | apply AtF.tail)) (fun _ => Bx (hl _) A1) om  om)) ?_)))
      rintro _ _ ⟨_, _, ⟨⟨ad21, cp22, sx23, i24⟩, ⟨⟨rfl, hvsx23, hlsx23⟩, hi24⟩, rfl⟩, rfl, rfl⟩
      show G Tryz.prog κ _ _ _ _ ([(47, .slice ad21 sx23.length cp22), (46, I64 (nodes)), (45, .pointer (some ⟨b, 0, none⟩)), (43, .bool (decide ((1 + x2) = 5))), (6, I64 (nodes)), (5, .pointer (some ⟨b4, 0, none⟩)), (4, .pointer (some ⟨b1, 0, none⟩)), (0, .pointer (some ⟨b, 0, none⟩))] : Env) (vc 3 (.slice ad21 sx23.length cp22) (sx23) :: blk b4 [I64 (1 + x2), I64 (0), I64 (0), .slice none 0 0, I64 (0), I64 (0)] 42 :: blk b1 [I64 (0), I64 (0), I64 (0), .slice none 0 0, I64 (0), I64 (0)] 42 :: blk b [lv, I64 (i24)] 125 :: I)
      have hi24 : 0 ≤ i24 := hi24
      dsimp only at hvsx23
      dsimp only at hlsx23
      refine Gm rfl (G.e (Al call19 rfl rfl (Next_ok (by repeat (first | exact AtF.head _ _ | apply AtF.tail)) (Bx (hl _) A1) om om)) ?_)
      rintro _ _ ⟨_, _, ⟨x25, i26, rfl, hx25, hi26, rfl⟩, rfl, rfl⟩
      show G Tryz.prog κ _ _ _ _ ([(49, I64 (x25)), (48, .pointer (some ⟨b, 0, none⟩)), (47, .slice ad21 sx23.length cp22), (46, I64 (nodes)), (45, .pointer (some ⟨b, 0, none⟩)), (43, .bool (decide ((1 + x2) = 5))), (6, I64 (nodes)), (5, .pointer (some ⟨b4, 0, none⟩)), (4, .pointer (some ⟨b1, 0, none⟩)), (0, .pointer (some ⟨b, 0, none⟩))] : Env) (vc 3 (.slice ad21 sx23.length cp22) (sx23) :: blk b4 [I64 (1 + x2), I64 (0), I64 (0), .slice none 0 0, I64 (0), I64 (0)] 42 :: blk b1 [I64 (0), I64 (0), I64 (0), .slice none 0 0, I64 (0), I64 (0)] 42 :: blk b [lv, I64 (i26)] 125 :: I)
      refine Gf fld42_3 rfl (Ge0 (Es6_1 ty22) ?_)
      refine Gf fld42_2 rfl (Ge0 (Es6_1 ty3) ?_)
      refine Bf (Ai (Ak (Ah (Gl6 ty42 ?_))))
      refine Ge0 (Dh ty42) ?_
      exact Af (Ay (Dg rfl ty42 rfl mm rfl (vc 3 (.slice ad21 sx23.length cp22) (sx23) :: blk b [lv, I64 (i26)] 125 :: I) Az ⟨((⟨1 + x2, 0, x25, ad21, cp22, sx23, 0, 0⟩ : AlV), i26), ⟨⟨rfl, (by first | exact al3e c29 hlsx23 hn.2 hvsx23 asm _ _ | exact al5e c43 hlsx23 hn.2 hvsx23 om _ _), by show x25 ≤ 3 ∧ 0 ≤ 5; omega⟩, by show 0 ≤ i26; omega⟩, rfl⟩))
     ·omega
theorem MkAlarm_at {F : Item → List Item} {b : Nat} {lv : Value} {ls : List Int} {i : Int} {nodes : Int} (hat : AtF I (deck b lv i) F) (hl : ∀ q, Sl κ (F (deck b lv q)) lv ls) (h0 : 0 ≤ i)  (hn : 1 ≤ nodes ∧ nodes ≤ 64) :
  CallS Tryz.prog κ 26 [.pointer (some ⟨b, 0, none⟩), I64 (nodes)] I fun r J => ∃ y : AlV × Int, ((r = .agg #[I64 y.1.kd, I64 y.1.no, I64 y.1.lv, .slice y.1.a y.1.xs.length y.1.c, I64 y.1.num, I64 y.1.den] ∧ AlOk nodes y.1 ∧ (y.1.lv ≤ 3 ∧ y.1.num ≤ 5)) ∧ 0 ≤ y.2) ∧ J = [vc 3 (.slice y.1.a y.1.xs.length y.1.c) y.1.xs] ++ F (deck b lv y.2) :=
 D1 (Post := fun r (y : AlV × Int) => (r = .agg #[I64 y.1.kd, I64 y.1.no, I64 y.1.lv, .slice y.1.a y.1.xs.length y.1.c, I64 y.1.num, I64 y.1.den] ∧ AlOk nodes y.1 ∧ (y.1.lv ≤ 3 ∧ y.1.num ≤ 5)) ∧ 0 ≤ y.2) (Z := fun y : AlV × Int => [vc 3 (.slice y.1.a y.1.xs.length y.1.c) y.1.xs]) (X := fun y : AlV × Int => deck b lv y.2) hat fun J _ hF => MkAlarm_base (fun q => (hl q).fit (hF _)) h0  hn
variable {κ : Ctx} {I : List Item}
def alR (als : List AlV) : List (RowG Int) := als.map fun x => ⟨x.a, x.c, x.xs⟩
theorem alR_snoc (als : List AlV) (x : AlV) : alR (als ++ [x]) = alR als ++ [(⟨x.a, x.c, x.xs⟩ : RowG Int)] := by unfold alR; rw [List.map_append]; rfl
theorem alR_held {als : List AlV} : ∀ x ∈ als, Sl κ (ownR 3 (alR als) ++ I) (.slice x.a x.xs.length x.c) x.xs := fun x hx => Ek (List.mem_append_left _ (List.mem_map.2 ⟨⟨x.a, x.c, x.xs⟩, List.mem_map.2 ⟨x, hx, rfl⟩, rfl⟩))
set_option maxHeartbeats 2000000 in
theorem MkAlarms_ok {b : Nat} {lv : Value} {ls : List Int} {i nodes : Int} (hl : Sl κ I lv ls) (h0 : 0 ≤ i) (hn : 1 ≤ nodes ∧ nodes ≤ 64) :
    CallS Tryz.prog κ 22 [.pointer (some ⟨b, 0, none⟩), I64 (nodes)] (blk b [lv, I64 (i)] 125 :: I) (fun r J => ∃ a c als q, r = .slice a als.length c ∧ (∀ x ∈ als, AlOk nodes x) ∧ als.length ≤ 4 ∧ 0 ≤ q ∧ J = vc 42 (.slice a als.length c) als :: (ownR 3 (alR als) ++ (deck b lv q :: I))) := by
 refine Ce2 Tryz.func22 rfl rfl ?_
 refine Ah (Ga rfl (Af (Ah (Ga rfl (Af (As (Ah (Gm rfl (G.e (Al call19 rfl rfl (Next_ok (by repeat (first | exact AtF.head _ _ | apply AtF.tail)) (Bh hl) om om)) ?_)))))))))
 rintro _ _ ⟨_, _, ⟨x1, i2, rfl, hx1, hi2, rfl⟩, rfl, rfl⟩
 show G Tryz.prog κ _ _ _ _ ([(8, I64 (x1)), (7, .pointer (some ⟨b, 0, none⟩)), (5, .slice none 0 0), (4, .slice none 0 0), (0, .pointer (some ⟨b, 0, none⟩)), (1, I64 (nodes))] : Env) (blk b [lv, I64 (i2)] 125 :: I)
 refine Ga rfl (Af (A0 (Bu (σ := (Option Addr) × Nat × (List AlV) × Int × Int) (fun s => ([(0, .pointer (some ⟨b, 0, none⟩)), (1, I64 (nodes)), (5, .slice s.1 s.2.2.1.length s.2.1), (6, I64 (s.2.2.2.2))] : Env)) (fun s => vc 42 (.slice s.1 s.2.2.1.length s.2.1) (s.2.2.1) :: blk b [lv, I64 (s.2.2.2.1)] 125 :: (ownR 3 (alR s.2.2.1) ++ I)) (fun s => (∀ x ∈ s.2.2.1, AlOk nodes x) ∧ (0 ≤ s.2.2.2.2 ∧ (s.2.2.1.length : Int) + s.2.2.2.2 ≤ 4) ∧ (0 ≤ s.2.2.2.1)) (fun s => s.2.2.2.2.toNat) (none, 0, [], i2, x1) (show (∀ x ∈ ([] : List AlV), AlOk nodes x) ∧ (0 ≤ (x1 : Int) ∧ (([] : List AlV).length : Int) + (x1 : Int) ≤ 4) ∧ (0 ≤ (i2 : Int)) from ⟨(fun x hx => by cases hx), (by simp only [List.length_nil]; omega), om⟩) (Aa rfl (Aa rfl (Aa (Cv rfl (by first | rfl | simp)) (Aa Cf Bg)))) (show Fit κ _ (vc 42 (.slice (none) ([]).length (0)) (([])) :: blk b [lv, I64 ((i2))] 125 :: (ownR 3 (alR ([])) ++ I)) from (Bt _ _)) ?_)))
 rintro ⟨a, c, out, iq, kq⟩ hp
 dsimp only at hp ⊢
 obtain ⟨hok, hkq, hiq⟩ := hp
 refine As (Ah (Gm rfl (Gr (B0 rfl rfl) (Af (A7 rfl (fun c10 => ?_) (fun c10 => ?_))))))
 ·refine A2 (Ak (As (A0 (Av (Gm rfl (Gm rfl (Gm rfl (G.e (Al call26 rfl rfl (MkAlarm_at (by repeat (first | exact AtF.head _ _ | apply AtF.tail)) (fun _ => Bx hl A1) om  om)) ?_))))))))
  rintro _ _ ⟨_, _, ⟨⟨xa3, i4⟩, ⟨⟨rfl, haxa3, habxa3⟩, hi4⟩, rfl⟩, rfl, rfl⟩
  show G Tryz.prog κ _ _ _ _ ([(16, .agg #[I64 (xa3.kd), I64 (xa3.no), I64 (xa3.lv), .slice xa3.a xa3.xs.length xa3.c, I64 (xa3.num), I64 (xa3.den)]), (15, I64 (nodes)), (14, .pointer (some ⟨b, 0, none⟩)), (13, .slice a out.length c), (10, .bool (decide (0 < kq))), (9, I64 (kq)), (0, .pointer (some ⟨b, 0, none⟩)), (1, I64 (nodes)), (5, .slice a out.length c), (6, I64 (kq))] : Env) (vc 3 (.slice xa3.a xa3.xs.length xa3.c) (xa3.xs) :: vc 42 (.slice a out.length c) (out) :: blk b [lv, I64 (i4)] 125 :: (ownR 3 (alR out) ++ I))
  have hi4 : 0 ≤ i4 := hi4
  refine Ge1 (B3 (α := AlV) (cs := [I64 (xa3.kd), I64 (xa3.no), I64 (xa3.lv), .slice xa3.a xa3.xs.length xa3.c, I64 (xa3.num), I64 (xa3.den)]) (xs := [⟨xa3.kd, xa3.no, xa3.lv, xa3.a, xa3.c, xa3.xs, xa3.num, xa3.den⟩]) Cn ty42 rfl rfl dc dc rfl kr rfl rfl) fun ad5 => ?_
  refine Ge2 (Ci (α := AlV) (e := 42) (xs := out) (ys := ([⟨xa3.kd, xa3.no, xa3.lv, xa3.a, xa3.c, xa3.xs, xa3.num, xa3.den⟩] : List AlV)) Cn ty42 rfl rfl rfl mm Be lcn dc rfl (fun _ _ => am)) fun ad6 cp7 => ?_
  exact Ga rfl (Bf (Ai (Ak (Av (Gm rfl (Gr (Rsu rfl rfl) (Ga rfl (Bf (B1 ((ad6), (cp7), (out ++ [xa3]), (i4), (kq - 1)) (by dsimp only; exact ⟨(fun x hx => (List.mem_append.1 hx).elim (hok x) (fun h => by rw [List.mem_singleton.1 h]; exact haxa3)), lap, om⟩) (hI := by (try dsimp only); exact (by rw [alR_snoc]; exact Cj (show Fit κ _ ([vc 42 (.slice ad6 (out ++ ([⟨xa3.kd, xa3.no, xa3.lv, xa3.a, xa3.c, xa3.xs, xa3.num, xa3.den⟩] : List AlV)).length cp7) (out ++ ([⟨xa3.kd, xa3.no, xa3.lv, xa3.a, xa3.c, xa3.xs, xa3.num, xa3.den⟩] : List AlV)), blk b [lv, I64 (i4)] 125] ++ vc 3 (.slice xa3.a xa3.xs.length xa3.c) (xa3.xs) :: (ownR 3 (alR out) ++ I)) from B4) (Fit.ownR_snoc (A := [vc 42 (.slice ad6 (out ++ ([⟨xa3.kd, xa3.no, xa3.lv, xa3.a, xa3.c, xa3.xs, xa3.num, xa3.den⟩] : List AlV)).length cp7) (out ++ ([⟨xa3.kd, xa3.no, xa3.lv, xa3.a, xa3.c, xa3.xs, xa3.num, xa3.den⟩] : List AlV)), blk b [lv, I64 (i4)] 125]) (e := 3) (rs := alR out) (r := (⟨xa3.a, xa3.c, xa3.xs⟩ : RowG Int))))))))))))))
 ·exact Br (Am (Am (A6 (Ak (Ah (Gm rfl (Ga rfl (Af (Ay (A3 rfl rfl (vc 42 (.slice a out.length c) out :: (ownR 3 (alR out) ++ (blk b [lv, I64 (iq)] 125 :: I))) (Fit.perm (List.Perm.cons _ (perm_fr (A := [blk b [lv, I64 (iq)] 125]) (L := ownR 3 (alR out)) (T := I)))) ⟨a, c, out, iq, rfl, hok, by omega, by omega, rfl⟩))))))))))
def mineR (R : List Rg) (i : Int) : List Rg := (R.filter fun r => decide (r.al = i)).map fun r => (⟨r.tm, 0, r.on⟩ : Rg)
theorem relA_congr1 {H H' : Int → Nat → Bool} (h : ∀ t, H t 0 = H' t 0) : ∀ (ts : List Int) (p p' : Nat → Bool), p 0 = p' 0 → relA H 1 p ts = relA H' 1 p' ts
 | [], p, p', _ => rfl
 | t :: ts, p, p', hp => by
  simp only [relA]
  rw [relR_one, relR_one, h t, hp, relA_congr1 h ts (H t) (H' t) (h t)]
section
variable {nd kd wd mo : Int} {es : List Ev} {als : List AlV}
theorem rings_lt : (ringsV nd kd wd mo es als).Pairwise Rg.lt := by
 unfold ringsV; rw [ringS_eq]; exact relA_lt _ _ _ _ (ascZ_asc _)
theorem rings_one (x : AlV) : ringsV nd kd wd mo es [x] = relA (fun t _ => holdV nd (atG kd wd mo es t) x) 1 (fun _ => false) (timesZ kd wd mo es) := by
 unfold ringsV; rw [ringS_eq]
 exact relA_congr1 (H := alH nd kd wd mo es [x]) (H' := fun t _ => holdV nd (atG kd wd mo es t) x) (fun t => rfl) _ _ _ rfl
theorem rings_own {i : Nat} (hi : i < als.length) : mineR (ringsV nd kd wd mo es als) (i : Int) = ringsV nd kd wd mo es [at_ als (i : Int)] := by
 rw [rings_one]
 unfold ringsV mineR
 rw [ringS_eq, relA_own _ hi]
 rfl
theorem rings_turn {i : Nat} (hi : i < als.length) : turns true (mineR (ringsV nd kd wd mo es als) (i : Int)) := by
 rw [rings_own hi, rings_one]
 exact relA_turns (fun t => holdV nd (atG kd wd mo es t) (at_ als (i : Int))) _ false
theorem rings_len (hH : HistOk nd kd wd mo es) (hlen : es.length ≤ 19) (hal : als.length ≤ 16) : (ringsV nd kd wd mo es als).length ≤ 928 := by
 have h1 := (ringS_len (alH nd kd wd mo es als) als.length (timesZ kd wd mo es) _ (Nat.le_refl _)).2
 rw [List.take_length] at h1
 have h2 := timesL_len hH hlen
 have h3 : als.length * (timesZ kd wd mo es).length ≤ 16 * 58 := Nat.mul_le_mul hal h2
 unfold ringsV
 omega
end
theorem mine_yes {R : List Rg} {i : Int} {k : Nat} (h : k < R.length) (hc : (at_ R (k : Int)).al = i) : mineR (R.take (k + 1)) i = mineR (R.take k) i ++ [(⟨(at_ R (k : Int)).tm, 0, (at_ R (k : Int)).on⟩ : Rg)] := by
 unfold mineR
 rw [Cx R k h, List.filter_append, List.map_append]
 congr 1
 simp [List.filter_cons, hc]
theorem mine_no {R : List Rg} {i : Int} {k : Nat} (h : k < R.length) (hc : ¬ (at_ R (k : Int)).al = i) : mineR (R.take (k + 1)) i = mineR (R.take k) i := by
 unfold mineR
 rw [Cx R k h, List.filter_append, List.map_append]
 simp [List.filter_cons, hc]
theorem mineR_len (R : List Rg) (i : Int) : (mineR R i).length ≤ R.length := by
 unfold mineR; rw [List.length_map]; exact List.length_filter_le _ _
theorem rlt_at {R : List Rg} (h : R.Pairwise Rg.lt) {k : Nat} (h0 : 0 < k) (hk : k < R.length) : (at_ R ((k : Int) - 1)).tm < (at_ R (k : Int)).tm ∨ ((at_ R ((k : Int) - 1)).tm = (at_ R (k : Int)).tm ∧ (at_ R ((k : Int) - 1)).al < (at_ R (k : Int)).al) := by
 rw [show (k : Int) - 1 = ((k - 1 : Nat) : Int) by omega, Ds R (k - 1) om, Ds R k hk]
 exact (List.pairwise_iff_getElem.1 h) (k - 1) k om hk om
theorem turn_at {M : List Rg} (h : turns true M) {q : Nat} (hq : q < M.length) : (at_ M (q : Int)).on = decide (Int.tmod (q : Int) 2 = 0) := by
 rw [turns_at h q hq]
 have e : Int.tmod (q : Int) 2 = ((q % 2 : Nat) : Int) := by rw [Int.tmod_eq_emod_of_nonneg om]; omega
 rw [e]
 by_cases h2 : q % 2 = 0
 ·rw [if_pos h2, decide_eq_true om]
 ·rw [if_neg h2, decide_eq_false om]; rfl
set_option maxHeartbeats 8000000 in
theorem AlertRings_walk {κ : Ctx} {I : List Item} {la : Option Addr} {ln lc : Nat} {ls : List Int} (hl : Sl κ I (.slice la ln lc) ls) (hT : TabRd κ I 0 tzCells) :
    CallS Tryz.prog κ 3 [.slice la ln lc] I (fun r J => r = .bool true ∧ I = J) := by
 refine Ce1 Tryz.func3 rfl rfl ?_
 refine Ah (Ga rfl (Af (As (Ah (Gm rfl (Gc0 (Al call16 rfl rfl Few_ok) ?_))))))
 refine Gr (Dw rfl) (Af (A7 rfl (fun c21 => ?_) (fun c21 => ?_)))
 ·refine Ah (G.e (Al call17 rfl rfl (Awake44_ok (Cb hT A1))) ?_)
  rintro _ _ ⟨_, _, ⟨rfl, rfl⟩, rfl, rfl⟩
  exact Ga rfl (Af (Ay (Aj (A3 rfl rfl (I) A1 ⟨rfl, rfl⟩))))
 ·refine A2 (Ak (Ah (Gm rfl (G.e (Al call18 rfl rfl New_ok) ?_))))
  rintro _ _ ⟨_, _, ⟨dk1, rfl, rfl⟩, rfl, rfl⟩
  show G Tryz.prog κ _ _ _ _ ([(24, .pointer (some ⟨dk1, 0, none⟩)), (23, .slice la ln lc), (21, .bool (decide (¬ ((ln : Int) ≤ 500)))), (20, .bool (decide ((ln : Int) ≤ 500))), (19, .slice la ln lc), (2, .bool false), (0, .slice la ln lc)] : Env) (blk dk1 [.slice la ln lc, I64 (0)] 125 :: I)
  have hi0 : (0 : Int) ≤ 0 := Int.le_refl _
  refine Ga rfl (Af (Ah (Gm rfl (G.e (Al call19 rfl rfl (Next_ok (by repeat (first | exact AtF.head _ _ | apply AtF.tail)) (Bh hl) om om)) ?_))))
  rintro _ _ ⟨_, _, ⟨x2, i3, rfl, hx2, hi3, rfl⟩, rfl, rfl⟩
  show G Tryz.prog κ _ _ _ _ ([(26, I64 (x2)), (25, .pointer (some ⟨dk1, 0, none⟩)), (3, .pointer (some ⟨dk1, 0, none⟩)), (24, .pointer (some ⟨dk1, 0, none⟩)), (23, .slice la ln lc), (21, .bool (decide (¬ ((ln : Int) ≤ 500)))), (20, .bool (decide ((ln : Int) ≤ 500))), (19, .slice la ln lc), (2, .bool false), (0, .slice la ln lc)] : Env) (blk dk1 [.slice la ln lc, I64 (i3)] 125 :: I)
  refine Gr (Rad rfl rfl) (Ga rfl ?_)
  generalize hnn : 2 + x2 = nn
  have hn2 : 2 ≤ nn ∧ nn ≤ 6 := by omega
  refine Af (Ah (Gm rfl (Gm rfl (G.e (Al call20 rfl rfl (MkEvents_at (by repeat (first | exact AtF.head _ _ | apply AtF.tail)) (fun _ => Bx hl A1) om  om om)) ?_))))
  rintro _ _ ⟨_, _, ⟨⟨ad4, cp5, es6, i7⟩, ⟨⟨rfl, hses6⟩, hi7⟩, rfl⟩, rfl, rfl⟩
  show G Tryz.prog κ _ _ _ _ ([(30, .slice ad4 es6.length cp5), (29, I64 (nn)), (28, .pointer (some ⟨dk1, 0, none⟩)), (4, I64 (nn)), (27, I64 (nn)), (26, I64 (x2)), (25, .pointer (some ⟨dk1, 0, none⟩)), (3, .pointer (some ⟨dk1, 0, none⟩)), (24, .pointer (some ⟨dk1, 0, none⟩)), (23, .slice la ln lc), (21, .bool (decide (¬ ((ln : Int) ≤ 500)))), (20, .bool (decide ((ln : Int) ≤ 500))), (19, .slice la ln lc), (2, .bool false), (0, .slice la ln lc)] : Env) (vc 108 (.slice ad4 es6.length cp5) (es6) :: blk dk1 [.slice la ln lc, I64 (i7)] 125 :: I)
  have hi7 : 0 ≤ i7 := hi7
  dsimp only at hses6
  refine Gm rfl (G.e (Al call21 rfl rfl (MkWindowV_at (by repeat (first | exact AtF.head _ _ | apply AtF.tail)) (fun _ => Bx hl A1) om  )) ?_)
  rintro _ _ ⟨_, _, ⟨⟨kd8, wd9, mo10, i11⟩, ⟨⟨rfl, hwkd8⟩, hi11⟩, rfl⟩, rfl, rfl⟩
  show G Tryz.prog κ _ _ _ _ ([(32, .agg #[I64 (kd8), I64 (wd9), I64 (mo10)]), (31, .pointer (some ⟨dk1, 0, none⟩)), (30, .slice ad4 es6.length cp5), (29, I64 (nn)), (28, .pointer (some ⟨dk1, 0, none⟩)), (4, I64 (nn)), (27, I64 (nn)), (26, I64 (x2)), (25, .pointer (some ⟨dk1, 0, none⟩)), (3, .pointer (some ⟨dk1, 0, none⟩)), (24, .pointer (some ⟨dk1, 0, none⟩)), (23, .slice la ln lc), (21, .bool (decide (¬ ((ln : Int) ≤ 500)))), (20, .bool (decide ((ln : Int) ≤ 500))), (19, .slice la ln lc), (2, .bool false), (0, .slice la ln lc)] : Env) (vc 108 (.slice ad4 es6.length cp5) (es6) :: blk dk1 [.slice la ln lc, I64 (i11)] 125 :: I)
  have hi11 : 0 ≤ i11 := hi11
  refine Ge1 (A8 ty31 rfl) fun b12 => Ga rfl (Ge0 (Es3_3 ty31) ?_)
  have hH : HistOk nn kd8 wd9 mo10 es6 := ⟨hses6.1.st om om, hwkd8⟩
  have hel : es6.length ≤ 19 := by omega
  have hH0 := hist_nil hH
  refine Af (Aq (S4 5 6 4 3 rfl rfl rfl rfl) (Ah (Gm rfl (Gm rfl (G.e (Al call22 rfl rfl (Ck (J := blk dk1 [.slice la ln lc, I64 (i11)] 125 :: blk b12 [I64 (kd8), I64 (wd9), I64 (mo10)] 31 :: vc 108 (.slice ad4 es6.length cp5) (es6) :: I) B4 (MkAlarms_ok (Bh hl) om om))) ?_)))))
  rintro _ _ ⟨_, _, ⟨ad13, cp14, als15, i16, rfl, hokals15, hlnals15, hi16, rfl⟩, rfl, rfl⟩
  refine G.fit (J := vc 42 (.slice ad13 als15.length cp14) (als15) :: blk dk1 [.slice la ln lc, I64 (i16)] 125 :: blk b12 [I64 (kd8), I64 (wd9), I64 (mo10)] 31 :: vc 108 (.slice ad4 es6.length cp5) (es6) :: (ownR 3 (alR als15) ++ I)) (Fit.perm (List.Perm.cons _ (perm_fr (A := ownR 3 (alR als15)) (L := [blk dk1 [.slice la ln lc, I64 (i16)] 125, blk b12 [I64 (kd8), I64 (wd9), I64 (mo10)] 31, vc 108 (.slice ad4 es6.length cp5) (es6)]) (T := I)))) ?_
  show G Tryz.prog κ _ _ _ _ ([(35, .slice ad13 als15.length cp14), (34, I64 (nn)), (33, .pointer (some ⟨dk1, 0, none⟩)), (5, .slice ad4 es6.length cp5), (6, .pointer (some ⟨b12, 0, none⟩)), (4, I64 (nn)), (3, .pointer (some ⟨dk1, 0, none⟩))] : Env) (vc 42 (.slice ad13 als15.length cp14) (als15) :: blk dk1 [.slice la ln lc, I64 (i16)] 125 :: blk b12 [I64 (kd8), I64 (wd9), I64 (mo10)] 31 :: vc 108 (.slice ad4 es6.length cp5) (es6) :: (ownR 3 (alR als15) ++ I))
  refine Ga rfl (Af (Ah (Gm rfl (Gm rfl (Gl3 ty31 ?_)))))
  refine Gm rfl (G.e (Al call23 rfl rfl (Watch_ok (nd := nn) (kd := kd8) (wd := wd9) (mo := mo10) (es := es6) (als := als15) (ea := ad4) (ec := cp5) (aa := ad13) (ac := cp14) Be Be (fun x hx => Bx (alR_held (I := I) x hx) A1) hH hel hokals15 (by first | omega | exact Nat.le_of_ble_eq_true rfl) (Cb hT A1))) ?_)
  rintro _ _ ⟨_, _, ⟨ad17, cp18, rfl, rfl⟩, rfl, rfl⟩
  refine Gm rfl (Gr (A4 rfl rfl) (Gr (A4 rfl rfl) (Ga rfl ?_)))
  have hRlt := rings_lt (nd := nn) (als := als15) (es := es6) (kd := kd8) (wd := wd9) (mo := mo10)
  have hRown := fun (i : Nat) (hi : i < als15.length) => rings_own (nd := nn) (es := es6) (kd := kd8) (wd := wd9) (mo := mo10) hi
  have hRtu := fun (i : Nat) (hi : i < als15.length) => rings_turn (nd := nn) (es := es6) (kd := kd8) (wd := wd9) (mo := mo10) hi
  have hRl := rings_len (als := als15) hH hel om
  generalize ringsV nn kd8 wd9 mo10 es6 als15 = R at hRlt hRown hRtu hRl ⊢
  refine Ga rfl (Af (Aq (S6 9 8 7 5 6 4 rfl rfl rfl rfl rfl rfl) (As (Ah (Gm rfl (Gr (Bl Cn rfl) (Gm rfl (Af (A0 (Bu (σ := Nat) (fun s => ([(4, I64 (nn)), (5, .slice ad4 es6.length cp5), (6, .pointer (some ⟨b12, 0, none⟩)), (8, .slice ad17 R.length cp18), (9, I64 (0)), (44, .slice ad13 als15.length cp14), (45, I64 (((als15.length : Nat) : Int))), (46, I64 (((s : Nat) : Int)))] : Env)) (fun s => vc 44 (.slice ad17 R.length cp18) (R) :: vc 42 (.slice ad13 als15.length cp14) (als15) :: blk dk1 [.slice la ln lc, I64 (i16)] 125 :: blk b12 [I64 (kd8), I64 (wd9), I64 (mo10)] 31 :: vc 108 (.slice ad4 es6.length cp5) (es6) :: (ownR 3 (alR als15) ++ I)) (fun s => (s ≤ als15.length)) (fun s => als15.length - s) (0) (show ((0 : Nat) ≤ als15.length) from om) (Aa rfl (Aa rfl (Aa rfl (Aa rfl (Aa rfl (Aa rfl (Aa rfl (Aa Cf Bg)))))))) (show Fit κ _ (vc 44 (.slice ad17 R.length cp18) (R) :: vc 42 (.slice ad13 als15.length cp14) (als15) :: blk dk1 [.slice la ln lc, I64 (i16)] 125 :: blk b12 [I64 (kd8), I64 (wd9), I64 (mo10)] 31 :: vc 108 (.slice ad4 es6.length cp5) (es6) :: (ownR 3 (alR als15) ++ I)) from Az) ?_))))))))))
  rintro k hp
  have hk := hp
  refine Ah (Gr (Ba rfl rfl) (Af (As (A7 rfl (fun c47 => ?_) (fun c47 => ?_)))))
  ·refine A2 (Ak (As (A0 (Ah (Gm rfl (Gr (Ax (α := AlV) (xs := als15) Cn ty42 rfl rfl Be om om) (Gr (Bp (α := AlV) (xs := als15) ty42 rfl Be om om) (Ge1 (A8 ty42 rfl) fun b19 => Ga rfl (Ge0 (Dh ty42) ?_)))))))))
   refine Af (Aq (S10 10 11 4 5 6 8 9 44 45 46 rfl rfl rfl rfl rfl rfl rfl rfl rfl rfl) (Ah (Gm rfl (Gm rfl (Gl3 ty31 ?_)))))
   refine Gl6 ty42 ?_
   refine Ge1 (B3 (α := AlV) (cs := [I64 ((at_ als15 (k : Int)).kd), I64 ((at_ als15 (k : Int)).no), I64 ((at_ als15 (k : Int)).lv), .slice (at_ als15 (k : Int)).a (at_ als15 (k : Int)).xs.length (at_ als15 (k : Int)).c, I64 ((at_ als15 (k : Int)).num), I64 ((at_ als15 (k : Int)).den)]) (xs := [⟨(at_ als15 (k : Int)).kd, (at_ als15 (k : Int)).no, (at_ als15 (k : Int)).lv, (at_ als15 (k : Int)).a, (at_ als15 (k : Int)).c, (at_ als15 (k : Int)).xs, (at_ als15 (k : Int)).num, (at_ als15 (k : Int)).den⟩]) Cn ty42 rfl rfl dc dc rfl kr rfl rfl) fun ad20 => ?_
   refine G.e (Al call23 rfl rfl (Watch_ok (nd := nn) (kd := kd8) (wd := wd9) (mo := mo10) (es := es6) (als := ([⟨(at_ als15 (k : Int)).kd, (at_ als15 (k : Int)).no, (at_ als15 (k : Int)).lv, (at_ als15 (k : Int)).a, (at_ als15 (k : Int)).c, (at_ als15 (k : Int)).xs, (at_ als15 (k : Int)).num, (at_ als15 (k : Int)).den⟩] : List AlV)) (ea := ad4) (ec := cp5) (aa := ad20) (ac := 1) Be Be (by intro x hx; rw [List.mem_singleton.1 hx]; exact Bx (alR_held (I := I) (at_ als15 (k : Int)) (Ch om om)) A1) hH hel (by intro x hx; rw [List.mem_singleton.1 hx]; exact hokals15 (at_ als15 (k : Int)) (Ch om om)) (by first | omega | exact Nat.le_of_ble_eq_true rfl) (Cb hT A1))) ?_
   rintro _ _ ⟨_, _, ⟨ad21, cp22, rfl, rfl⟩, rfl, rfl⟩
   refine Gm rfl (Gr (A4 rfl rfl) (Gr (A4 rfl rfl) (Ga rfl (Ga rfl (Af (Aq (S11 13 12 10 4 5 6 8 9 44 45 46 rfl rfl rfl rfl rfl rfl rfl rfl rfl rfl rfl) (Ah (Ga rfl (Af (As (Ah (Gm rfl (Gr (Bl Bw rfl) (Gm rfl (Af (Aq (S15 62 61 60 14 13 12 10 4 5 6 8 9 44 45 46 rfl rfl rfl rfl rfl rfl rfl rfl rfl rfl rfl rfl rfl rfl rfl) (A0 (Bu (σ := Nat × (Option Addr) × Nat × (List Rg)) (fun s => ([(4, I64 (nn)), (5, .slice ad4 es6.length cp5), (6, .pointer (some ⟨b12, 0, none⟩)), (8, .slice ad17 R.length cp18), (9, I64 (0)), (10, I64 ((k : Int))), (12, .slice ad21 (ringsV nn kd8 wd9 mo10 es6 ([⟨(at_ als15 (k : Int)).kd, (at_ als15 (k : Int)).no, (at_ als15 (k : Int)).lv, (at_ als15 (k : Int)).a, (at_ als15 (k : Int)).c, (at_ als15 (k : Int)).xs, (at_ als15 (k : Int)).num, (at_ als15 (k : Int)).den⟩] : List AlV)).length cp22), (13, I64 (0)), (14, .slice s.2.1 s.2.2.2.length s.2.2.1), (44, .slice ad13 als15.length cp14), (45, I64 (((als15.length : Nat) : Int))), (46, I64 ((k : Int))), (60, .slice ad17 R.length cp18), (61, I64 (((R.length : Nat) : Int))), (62, I64 (((s.1 : Nat) : Int)))] : Env)) (fun s => vc 44 (.slice s.2.1 s.2.2.2.length s.2.2.1) (s.2.2.2) :: vc 44 (.slice ad21 (ringsV nn kd8 wd9 mo10 es6 ([⟨(at_ als15 (k : Int)).kd, (at_ als15 (k : Int)).no, (at_ als15 (k : Int)).lv, (at_ als15 (k : Int)).a, (at_ als15 (k : Int)).c, (at_ als15 (k : Int)).xs, (at_ als15 (k : Int)).num, (at_ als15 (k : Int)).den⟩] : List AlV)).length cp22) (ringsV nn kd8 wd9 mo10 es6 ([⟨(at_ als15 (k : Int)).kd, (at_ als15 (k : Int)).no, (at_ als15 (k : Int)).lv, (at_ als15 (k : Int)).a, (at_ als15 (k : Int)).c, (at_ als15 (k : Int)).xs, (at_ als15 (k : Int)).num, (at_ als15 (k : Int)).den⟩] : List AlV)) :: vc 42 (.slice ad20 1 1) (([⟨(at_ als15 (k : Int)).kd, (at_ als15 (k : Int)).no, (at_ als15 (k : Int)).lv, (at_ als15 (k : Int)).a, (at_ als15 (k : Int)).c, (at_ als15 (k : Int)).xs, (at_ als15 (k : Int)).num, (at_ als15 (k : Int)).den⟩] : List AlV)) :: blk b19 [I64 ((at_ als15 (k : Int)).kd), I64 ((at_ als15 (k : Int)).no), I64 ((at_ als15 (k : Int)).lv), .slice (at_ als15 (k : Int)).a (at_ als15 (k : Int)).xs.length (at_ als15 (k : Int)).c, I64 ((at_ als15 (k : Int)).num), I64 ((at_ als15 (k : Int)).den)] 42 :: vc 44 (.slice ad17 R.length cp18) (R) :: vc 42 (.slice ad13 als15.length cp14) (als15) :: blk dk1 [.slice la ln lc, I64 (i16)] 125 :: blk b12 [I64 (kd8), I64 (wd9), I64 (mo10)] 31 :: vc 108 (.slice ad4 es6.length cp5) (es6) :: (ownR 3 (alR als15) ++ I)) (fun s => (s.1 ≤ R.length) ∧ (s.2.2.2 = mineR (List.take s.1 R) (k : Int))) (fun s => R.length - s.1) (0, none, 0, []) (show ((0 : Nat) ≤ R.length) ∧ (([] : List Rg) = mineR (List.take (0 : Nat) R) (k : Int)) from ⟨om, rfl⟩) (Aa rfl (Aa rfl (Aa rfl (Aa rfl (Aa rfl (Aa rfl (Aa rfl (Aa rfl (Aa (Cv rfl (by first | rfl | simp)) (Aa rfl (Aa rfl (Aa rfl (Aa rfl (Aa rfl (Aa Cf Bg))))))))))))))) (show Fit κ _ (vc 44 (.slice (none) ([]).length (0)) (([])) :: vc 44 (.slice ad21 (ringsV nn kd8 wd9 mo10 es6 ([⟨(at_ als15 (k : Int)).kd, (at_ als15 (k : Int)).no, (at_ als15 (k : Int)).lv, (at_ als15 (k : Int)).a, (at_ als15 (k : Int)).c, (at_ als15 (k : Int)).xs, (at_ als15 (k : Int)).num, (at_ als15 (k : Int)).den⟩] : List AlV)).length cp22) (ringsV nn kd8 wd9 mo10 es6 ([⟨(at_ als15 (k : Int)).kd, (at_ als15 (k : Int)).no, (at_ als15 (k : Int)).lv, (at_ als15 (k : Int)).a, (at_ als15 (k : Int)).c, (at_ als15 (k : Int)).xs, (at_ als15 (k : Int)).num, (at_ als15 (k : Int)).den⟩] : List AlV)) :: vc 42 (.slice ad20 1 1) (([⟨(at_ als15 (k : Int)).kd, (at_ als15 (k : Int)).no, (at_ als15 (k : Int)).lv, (at_ als15 (k : Int)).a, (at_ als15 (k : Int)).c, (at_ als15 (k : Int)).xs, (at_ als15 (k : Int)).num, (at_ als15 (k : Int)).den⟩] : List AlV)) :: blk b19 [I64 ((at_ als15 (k : Int)).kd), I64 ((at_ als15 (k : Int)).no), I64 ((at_ als15 (k : Int)).lv), .slice (at_ als15 (k : Int)).a (at_ als15 (k : Int)).xs.length (at_ als15 (k : Int)).c, I64 ((at_ als15 (k : Int)).num), I64 ((at_ als15 (k : Int)).den)] 42 :: vc 44 (.slice ad17 R.length cp18) (R) :: vc 42 (.slice ad13 als15.length cp14) (als15) :: blk dk1 [.slice la ln lc, I64 (i16)] 125 :: blk b12 [I64 (kd8), I64 (wd9), I64 (mo10)] 31 :: vc 108 (.slice ad4 es6.length cp5) (es6) :: (ownR 3 (alR als15) ++ I)) from (Bt _ _)) ?_))))))))))))))))))
   rintro ⟨k2, ma, mc, mine⟩ hp
   dsimp only at hp ⊢
   obtain ⟨hk2, hmi⟩ := hp
   have hml : mine.length ≤ k2 := by rw [hmi]; refine Nat.le_trans (mineR_len _ _) ?_; rw [List.length_take]; omega
   have hlt := fun (h0 : 0 < k2) (h1 : k2 < R.length) => rlt_at hRlt h0 h1
   refine Ah (Gr (Ba rfl rfl) (Af (Aq (S16 63 4 5 6 8 9 10 12 13 14 44 45 46 60 61 62 rfl rfl rfl rfl rfl rfl rfl rfl rfl rfl rfl rfl rfl rfl rfl rfl) (As (A7 rfl (fun c63 => ?_) (fun c63 => ?_))))))
   ·refine A2 (Ak (Aq (S15 4 5 6 8 9 10 12 13 14 44 45 46 60 61 62 rfl rfl rfl rfl rfl rfl rfl rfl rfl rfl rfl rfl rfl rfl rfl) (As (A0 (Ah (Gm rfl (Gr (Ax (α := Rg) (xs := R) Bw ty44 rfl rfl Be om om) (Gr (Bp (α := Rg) (xs := R) ty44 rfl Be om om) ?_))))))))
    have hlt2 := fun h => hlt h om
    refine Ge1 (A8 ty44 rfl) fun b23 => Ga rfl (Ge0 (Es3_3 ty44) ?_)
    refine Af (Aq (S17 15 16 4 5 6 8 9 10 12 13 14 44 45 46 60 61 62 rfl rfl rfl rfl rfl rfl rfl rfl rfl rfl rfl rfl rfl rfl rfl rfl rfl) (As (Ah (Gf fld44_1 rfl (Gl ty3 ?_)))))
    refine Gm rfl (Gr (Bi rfl rfl) (Af (Aq (L' := [(70, _), (15, _), (16, _), (4, _), (5, _), (6, _), (8, _), (9, _), (10, _), (12, _), (13, _), (14, _), (44, _), (45, _), (46, _), (60, _), (61, _), (62, _)]) (Aa rfl (Aa rfl (Aa rfl (Aa rfl (Aa rfl (Aa rfl (Aa rfl (Aa rfl (Aa rfl (Aa rfl (Aa rfl (Aa rfl (Aa rfl (Aa rfl (Aa rfl (Aa rfl (Aa rfl (Aa rfl Bg)))))))))))))))))) (A7 rfl (fun c70 => ?_) (fun c70 => ?_)))))
    ·refine Av (Gm rfl (Gf fld44_0 rfl (Gl ty3 ?_)))
     refine Gf fld44_2 rfl (Gl ty4 ?_)
     refine Gr (Bb (cells := [_, _, _]) ty44 D5 pl44 rfl rfl) (Ge1 (B3 (α := Rg) (cs := [_, _, _]) (xs := [⟨(at_ R (k2 : Int)).tm, 0, (at_ R (k2 : Int)).on⟩]) Bw ty44 rfl rfl dc dc rfl rfl rfl rfl) fun ad24 => ?_)
     refine Ge2 (Ci (α := Rg) (e := 44) (xs := mine) (ys := ([⟨(at_ R (k2 : Int)).tm, 0, (at_ R (k2 : Int)).on⟩] : List Rg)) Bw ty44 rfl rfl rfl mm Be lcn dc rfl (fun _ _ => am)) fun ad25 cp26 => ?_
     refine Ga rfl (Af (Aq (S17 14 15 16 4 5 6 8 9 10 12 13 44 45 46 60 61 62 rfl rfl rfl rfl rfl rfl rfl rfl rfl rfl rfl rfl rfl rfl rfl rfl rfl) (As (Bj mixed (Bm (vc 44 (.slice ad24 1 1) (([⟨(at_ R (k2 : Int)).tm, 0, (at_ R (k2 : Int)).on⟩] : List Rg)) :: blk b23 [I64 ((at_ R (k2 : Int)).tm), I64 ((at_ R (k2 : Int)).al), .bool ((at_ R (k2 : Int)).on)] 44 :: vc 44 (.slice ad25 (mine ++ ([⟨(at_ R (k2 : Int)).tm, 0, (at_ R (k2 : Int)).on⟩] : List Rg)).length cp26) (mine ++ ([⟨(at_ R (k2 : Int)).tm, 0, (at_ R (k2 : Int)).on⟩] : List Rg)) :: vc 44 (.slice ad21 (ringsV nn kd8 wd9 mo10 es6 ([⟨(at_ als15 (k : Int)).kd, (at_ als15 (k : Int)).no, (at_ als15 (k : Int)).lv, (at_ als15 (k : Int)).a, (at_ als15 (k : Int)).c, (at_ als15 (k : Int)).xs, (at_ als15 (k : Int)).num, (at_ als15 (k : Int)).den⟩] : List AlV)).length cp22) (ringsV nn kd8 wd9 mo10 es6 ([⟨(at_ als15 (k : Int)).kd, (at_ als15 (k : Int)).no, (at_ als15 (k : Int)).lv, (at_ als15 (k : Int)).a, (at_ als15 (k : Int)).c, (at_ als15 (k : Int)).xs, (at_ als15 (k : Int)).num, (at_ als15 (k : Int)).den⟩] : List AlV)) :: vc 42 (.slice ad20 1 1) (([⟨(at_ als15 (k : Int)).kd, (at_ als15 (k : Int)).no, (at_ als15 (k : Int)).lv, (at_ als15 (k : Int)).a, (at_ als15 (k : Int)).c, (at_ als15 (k : Int)).xs, (at_ als15 (k : Int)).num, (at_ als15 (k : Int)).den⟩] : List AlV)) :: blk b19 [I64 ((at_ als15 (k : Int)).kd), I64 ((at_ als15 (k : Int)).no), I64 ((at_ als15 (k : Int)).lv), .slice (at_ als15 (k : Int)).a (at_ als15 (k : Int)).xs.length (at_ als15 (k : Int)).c, I64 ((at_ als15 (k : Int)).num), I64 ((at_ als15 (k : Int)).den)] 42 :: vc 44 (.slice ad17 R.length cp18) (R) :: vc 42 (.slice ad13 als15.length cp14) (als15) :: blk dk1 [.slice la ln lc, I64 (i16)] 125 :: blk b12 [I64 (kd8), I64 (wd9), I64 (mo10)] 31 :: vc 108 (.slice ad4 es6.length cp5) (es6) :: (ownR 3 (alR als15) ++ I)) 35 (Dr 0 rfl (Ad rfl) (Dr 1 rfl (B0 rfl rfl) (Dr 2 rfl (Ad rfl) (C4 (d := 81) rfl (fun g81 => ?_) (fun g81 => ?_))))))))))
     ·refine Dro 3 rfl (Ad rfl) (Dro 4 rfl (Ad rfl) (Dro 5 rfl (Rsu rfl rfl) (Dro 6 rfl (Ax (α := Rg) (xs := R) Bw ty44 rfl rfl Be om om) (Dro 7 rfl (Db (α := Rg) (xs := R) fld44_0 rfl Be om) (Dro 8 rfl (Dc (α := Rg) (xs := R) (u := I64 ((at_ R ((k2 : Int) - 1)).tm)) ty3 rfl Be om om rfl) (Dro 9 rfl (Ab fld44_0 rfl) (Dro 10 rfl (Au ty3) ?_)))))))
      refine Dro 11 rfl (B0 rfl rfl) (Dro 12 rfl (Ad rfl) (C4 (d := 91) rfl (fun g91 => ?_) (fun g91 => ?_)))
      ·refine Dpo 13 rfl (Dpo 14 rfl (Dpo 15 rfl (Dpo 16 rfl (Dpo 17 rfl (Dpo 18 rfl (Dpo 19 rfl (Dpo 20 rfl (Dpo 21 rfl (Dpo 22 rfl (Dpu 23 rfl (Dpu 24 rfl (Dpu 25 rfl (Dpu 26 rfl (Dpu 27 rfl (Dpu 28 rfl (Dpu 29 rfl (Dpu 30 rfl (Dpu 31 rfl (Dpo 32 rfl (Dro 33 rfl (Ao rfl rfl) (Dr 34 rfl (Ao rfl rfl) (Dz (Ak (Aq (S16 113 14 4 5 6 8 9 10 12 13 44 45 46 60 61 62 rfl rfl rfl rfl rfl rfl rfl rfl rfl rfl rfl rfl rfl rfl rfl rfl) (Co rfl (Ah (Ga rfl (Af (Aq (S1 2 rfl) (Ay (Ap (Aj (Aj (Ap (Aj (Ap (Aj (Aj (Ap (Aj ?_))))))))))))))))))))))))))))))))))))))))
       exfalso; omega
      ·refine Dro 13 rfl (Ad rfl) (Dro 14 rfl (Ad rfl) (Dro 15 rfl (Rsu rfl rfl) (Dro 16 rfl (Ax (α := Rg) (xs := R) Bw ty44 rfl rfl Be om om) (Dro 17 rfl (Db (α := Rg) (xs := R) fld44_0 rfl Be om) (Dro 18 rfl (Dc (α := Rg) (xs := R) (u := I64 ((at_ R ((k2 : Int) - 1)).tm)) ty3 rfl Be om om rfl) (Dro 19 rfl (Ab fld44_0 rfl) (Dro 20 rfl (Au ty3) ?_)))))))
       refine Dro 21 rfl (Bi rfl rfl) (Dro 22 rfl (Ad rfl) (C4 (d := 101) rfl (fun g101 => ?_) (fun g101 => ?_)))
       ·refine Dro 23 rfl (Ad rfl) (Dro 24 rfl (Ad rfl) (Dro 25 rfl (Rsu rfl rfl) (Dro 26 rfl (Ax (α := Rg) (xs := R) Bw ty44 rfl rfl Be om om) (Dro 27 rfl (Db (α := Rg) (xs := R) fld44_1 rfl Be om) (Dro 28 rfl (Dc (α := Rg) (xs := R) (u := I64 ((at_ R ((k2 : Int) - 1)).al)) ty3 rfl Be om om rfl) (Dro 29 rfl (Ab fld44_1 rfl) (Dro 30 rfl (Au ty3) ?_)))))))
        refine Dro 31 rfl (Cc rfl rfl) (Dro 32 rfl (Ao rfl rfl) (Dro 33 rfl (Ar rfl rfl) (Dr 34 rfl (Ao rfl rfl) (Dz (Ak (Aq (S16 113 14 4 5 6 8 9 10 12 13 44 45 46 60 61 62 rfl rfl rfl rfl rfl rfl rfl rfl rfl rfl rfl rfl rfl rfl rfl rfl) (A7 rfl (fun c113 => ?_) (fun c113 => ?_))))))))
        ·refine Ah (Ga rfl (Af (Aq (S1 2 rfl) (Ay (Ap (Aj (Aj (Ap (Aj (Ap (Aj (Aj (Ap (Aj ?_))))))))))))))
         exfalso; omega
        ·exact A2 (Ai (Ak (Aq (S15 14 4 5 6 8 9 10 12 13 44 45 46 60 61 62 rfl rfl rfl rfl rfl rfl rfl rfl rfl rfl rfl rfl rfl rfl rfl) (Av (Gr (Rad rfl rfl) (Gm rfl (Bf (B1 ((k2 + 1), (ad25), (cp26), (mine ++ ([⟨(at_ R (k2 : Int)).tm, 0, (at_ R (k2 : Int)).on⟩] : List Rg))) (by dsimp only; exact ⟨om, (by first | (rw [mine_yes om c70, ← hmi]) | (rw [mine_no om c70, ← hmi]))⟩)))))))))
       ·exact Dpo 23 rfl (Dpo 24 rfl (Dpo 25 rfl (Dpo 26 rfl (Dpo 27 rfl (Dpo 28 rfl (Dpo 29 rfl (Dpo 30 rfl (Dpo 31 rfl (Dro 32 rfl (Ar rfl rfl) (Dro 33 rfl (Ar rfl rfl) (Dr 34 rfl (Ao rfl rfl) (Dz (Ak (Aq (S16 113 14 4 5 6 8 9 10 12 13 44 45 46 60 61 62 rfl rfl rfl rfl rfl rfl rfl rfl rfl rfl rfl rfl rfl rfl rfl rfl) (Di rfl (A2 (Ai (Ak (Aq (S15 14 4 5 6 8 9 10 12 13 44 45 46 60 61 62 rfl rfl rfl rfl rfl rfl rfl rfl rfl rfl rfl rfl rfl rfl rfl) (Av (Gr (Rad rfl rfl) (Gm rfl (Bf (B1 ((k2 + 1), (ad25), (cp26), (mine ++ ([⟨(at_ R (k2 : Int)).tm, 0, (at_ R (k2 : Int)).on⟩] : List Rg))) (by dsimp only; exact ⟨om, (by first | (rw [mine_yes om c70, ← hmi]) | (rw [mine_no om c70, ← hmi]))⟩)))))))))))))))))))))))))
     ·exact Dpo 3 rfl (Dpo 4 rfl (Dpo 5 rfl (Dpo 6 rfl (Dpo 7 rfl (Dpo 8 rfl (Dpo 9 rfl (Dpo 10 rfl (Dpo 11 rfl (Dpo 12 rfl (Dpu 13 rfl (Dpu 14 rfl (Dpu 15 rfl (Dpu 16 rfl (Dpu 17 rfl (Dpu 18 rfl (Dpu 19 rfl (Dpu 20 rfl (Dpu 21 rfl (Dpu 22 rfl (Dpu 23 rfl (Dpu 24 rfl (Dpu 25 rfl (Dpu 26 rfl (Dpu 27 rfl (Dpu 28 rfl (Dpu 29 rfl (Dpu 30 rfl (Dpu 31 rfl (Dpu 32 rfl (Dpo 33 rfl (Dr 34 rfl (Ar rfl rfl) (Dz (Ak (Aq (S16 113 14 4 5 6 8 9 10 12 13 44 45 46 60 61 62 rfl rfl rfl rfl rfl rfl rfl rfl rfl rfl rfl rfl rfl rfl rfl rfl) (Di rfl (A2 (Ai (Ak (Aq (S15 14 4 5 6 8 9 10 12 13 44 45 46 60 61 62 rfl rfl rfl rfl rfl rfl rfl rfl rfl rfl rfl rfl rfl rfl rfl) (Av (Gr (Rad rfl rfl) (Gm rfl (Bf (B1 ((k2 + 1), (ad25), (cp26), (mine ++ ([⟨(at_ R (k2 : Int)).tm, 0, (at_ R (k2 : Int)).on⟩] : List Rg))) (by dsimp only; exact ⟨om, (by first | (rw [mine_yes om c70, ← hmi]) | (rw [mine_no om c70, ← hmi]))⟩)))))))))))))))))))))))))))))))))))))))))))))
    ·refine A2 (Ak (Aq (S17 15 16 4 5 6 8 9 10 12 13 14 44 45 46 60 61 62 rfl rfl rfl rfl rfl rfl rfl rfl rfl rfl rfl rfl rfl rfl rfl rfl rfl) (As (Bj mixed (Bm (blk b23 [I64 ((at_ R (k2 : Int)).tm), I64 ((at_ R (k2 : Int)).al), .bool ((at_ R (k2 : Int)).on)] 44 :: vc 44 (.slice ma mine.length mc) (mine) :: vc 44 (.slice ad21 (ringsV nn kd8 wd9 mo10 es6 ([⟨(at_ als15 (k : Int)).kd, (at_ als15 (k : Int)).no, (at_ als15 (k : Int)).lv, (at_ als15 (k : Int)).a, (at_ als15 (k : Int)).c, (at_ als15 (k : Int)).xs, (at_ als15 (k : Int)).num, (at_ als15 (k : Int)).den⟩] : List AlV)).length cp22) (ringsV nn kd8 wd9 mo10 es6 ([⟨(at_ als15 (k : Int)).kd, (at_ als15 (k : Int)).no, (at_ als15 (k : Int)).lv, (at_ als15 (k : Int)).a, (at_ als15 (k : Int)).c, (at_ als15 (k : Int)).xs, (at_ als15 (k : Int)).num, (at_ als15 (k : Int)).den⟩] : List AlV)) :: vc 42 (.slice ad20 1 1) (([⟨(at_ als15 (k : Int)).kd, (at_ als15 (k : Int)).no, (at_ als15 (k : Int)).lv, (at_ als15 (k : Int)).a, (at_ als15 (k : Int)).c, (at_ als15 (k : Int)).xs, (at_ als15 (k : Int)).num, (at_ als15 (k : Int)).den⟩] : List AlV)) :: blk b19 [I64 ((at_ als15 (k : Int)).kd), I64 ((at_ als15 (k : Int)).no), I64 ((at_ als15 (k : Int)).lv), .slice (at_ als15 (k : Int)).a (at_ als15 (k : Int)).xs.length (at_ als15 (k : Int)).c, I64 ((at_ als15 (k : Int)).num), I64 ((at_ als15 (k : Int)).den)] 42 :: vc 44 (.slice ad17 R.length cp18) (R) :: vc 42 (.slice ad13 als15.length cp14) (als15) :: blk dk1 [.slice la ln lc, I64 (i16)] 125 :: blk b12 [I64 (kd8), I64 (wd9), I64 (mo10)] 31 :: vc 108 (.slice ad4 es6.length cp5) (es6) :: (ownR 3 (alR als15) ++ I)) 35 (Dr 0 rfl (Ad rfl) (Dr 1 rfl (B0 rfl rfl) (Dr 2 rfl (Ad rfl) (C4 (d := 81) rfl (fun g81 => ?_) (fun g81 => ?_))))))))))
     ·refine Dro 3 rfl (Ad rfl) (Dro 4 rfl (Ad rfl) (Dro 5 rfl (Rsu rfl rfl) (Dro 6 rfl (Ax (α := Rg) (xs := R) Bw ty44 rfl rfl Be om om) (Dro 7 rfl (Db (α := Rg) (xs := R) fld44_0 rfl Be om) (Dro 8 rfl (Dc (α := Rg) (xs := R) (u := I64 ((at_ R ((k2 : Int) - 1)).tm)) ty3 rfl Be om om rfl) (Dro 9 rfl (Ab fld44_0 rfl) (Dro 10 rfl (Au ty3) ?_)))))))
      refine Dro 11 rfl (B0 rfl rfl) (Dro 12 rfl (Ad rfl) (C4 (d := 91) rfl (fun g91 => ?_) (fun g91 => ?_)))
      ·refine Dpo 13 rfl (Dpo 14 rfl (Dpo 15 rfl (Dpo 16 rfl (Dpo 17 rfl (Dpo 18 rfl (Dpo 19 rfl (Dpo 20 rfl (Dpo 21 rfl (Dpo 22 rfl (Dpu 23 rfl (Dpu 24 rfl (Dpu 25 rfl (Dpu 26 rfl (Dpu 27 rfl (Dpu 28 rfl (Dpu 29 rfl (Dpu 30 rfl (Dpu 31 rfl (Dpo 32 rfl (Dro 33 rfl (Ao rfl rfl) (Dr 34 rfl (Ao rfl rfl) (Dz (Ak (Aq (S16 113 4 5 6 8 9 10 12 13 14 44 45 46 60 61 62 rfl rfl rfl rfl rfl rfl rfl rfl rfl rfl rfl rfl rfl rfl rfl rfl) (Co rfl (Ah (Ga rfl (Af (Aq (S1 2 rfl) (Ay (Ap (Aj (Aj (Ap (Aj (Ap (Aj (Aj (Ap (Aj ?_))))))))))))))))))))))))))))))))))))))))
       exfalso; omega
      ·refine Dro 13 rfl (Ad rfl) (Dro 14 rfl (Ad rfl) (Dro 15 rfl (Rsu rfl rfl) (Dro 16 rfl (Ax (α := Rg) (xs := R) Bw ty44 rfl rfl Be om om) (Dro 17 rfl (Db (α := Rg) (xs := R) fld44_0 rfl Be om) (Dro 18 rfl (Dc (α := Rg) (xs := R) (u := I64 ((at_ R ((k2 : Int) - 1)).tm)) ty3 rfl Be om om rfl) (Dro 19 rfl (Ab fld44_0 rfl) (Dro 20 rfl (Au ty3) ?_)))))))
       refine Dro 21 rfl (Bi rfl rfl) (Dro 22 rfl (Ad rfl) (C4 (d := 101) rfl (fun g101 => ?_) (fun g101 => ?_)))
       ·refine Dro 23 rfl (Ad rfl) (Dro 24 rfl (Ad rfl) (Dro 25 rfl (Rsu rfl rfl) (Dro 26 rfl (Ax (α := Rg) (xs := R) Bw ty44 rfl rfl Be om om) (Dro 27 rfl (Db (α := Rg) (xs := R) fld44_1 rfl Be om) (Dro 28 rfl (Dc (α := Rg) (xs := R) (u := I64 ((at_ R ((k2 : Int) - 1)).al)) ty3 rfl Be om om rfl) (Dro 29 rfl (Ab fld44_1 rfl) (Dro 30 rfl (Au ty3) ?_)))))))
        refine Dro 31 rfl (Cc rfl rfl) (Dro 32 rfl (Ao rfl rfl) (Dro 33 rfl (Ar rfl rfl) (Dr 34 rfl (Ao rfl rfl) (Dz (Ak (Aq (S16 113 4 5 6 8 9 10 12 13 14 44 45 46 60 61 62 rfl rfl rfl rfl rfl rfl rfl rfl rfl rfl rfl rfl rfl rfl rfl rfl) (A7 rfl (fun c113 => ?_) (fun c113 => ?_))))))))
        ·refine Ah (Ga rfl (Af (Aq (S1 2 rfl) (Ay (Ap (Aj (Aj (Ap (Aj (Ap (Aj (Aj (Ap (Aj ?_))))))))))))))
         exfalso; omega
        ·exact A2 (Ai (Ak (Aq (S15 4 5 6 8 9 10 12 13 14 44 45 46 60 61 62 rfl rfl rfl rfl rfl rfl rfl rfl rfl rfl rfl rfl rfl rfl rfl) (Av (Gr (Rad rfl rfl) (Gm rfl (Bf (B1 ((k2 + 1), (ma), (mc), (mine)) (by dsimp only; exact ⟨om, (by first | (rw [mine_yes om c70, ← hmi]) | (rw [mine_no om c70, ← hmi]))⟩)))))))))
       ·exact Dpo 23 rfl (Dpo 24 rfl (Dpo 25 rfl (Dpo 26 rfl (Dpo 27 rfl (Dpo 28 rfl (Dpo 29 rfl (Dpo 30 rfl (Dpo 31 rfl (Dro 32 rfl (Ar rfl rfl) (Dro 33 rfl (Ar rfl rfl) (Dr 34 rfl (Ao rfl rfl) (Dz (Ak (Aq (S16 113 4 5 6 8 9 10 12 13 14 44 45 46 60 61 62 rfl rfl rfl rfl rfl rfl rfl rfl rfl rfl rfl rfl rfl rfl rfl rfl) (Di rfl (A2 (Ai (Ak (Aq (S15 4 5 6 8 9 10 12 13 14 44 45 46 60 61 62 rfl rfl rfl rfl rfl rfl rfl rfl rfl rfl rfl rfl rfl rfl rfl) (Av (Gr (Rad rfl rfl) (Gm rfl (Bf (B1 ((k2 + 1), (ma), (mc), (mine)) (by dsimp only; exact ⟨om, (by first | (rw [mine_yes om c70, ← hmi]) | (rw [mine_no om c70, ← hmi]))⟩)))))))))))))))))))))))))
     ·exact Dpo 3 rfl (Dpo 4 rfl (Dpo 5 rfl (Dpo 6 rfl (Dpo 7 rfl (Dpo 8 rfl (Dpo 9 rfl (Dpo 10 rfl (Dpo 11 rfl (Dpo 12 rfl (Dpu 13 rfl (Dpu 14 rfl (Dpu 15 rfl (Dpu 16 rfl (Dpu 17 rfl (Dpu 18 rfl (Dpu 19 rfl (Dpu 20 rfl (Dpu 21 rfl (Dpu 22 rfl (Dpu 23 rfl (Dpu 24 rfl (Dpu 25 rfl (Dpu 26 rfl (Dpu 27 rfl (Dpu 28 rfl (Dpu 29 rfl (Dpu 30 rfl (Dpu 31 rfl (Dpu 32 rfl (Dpo 33 rfl (Dr 34 rfl (Ar rfl rfl) (Dz (Ak (Aq (S16 113 4 5 6 8 9 10 12 13 14 44 45 46 60 61 62 rfl rfl rfl rfl rfl rfl rfl rfl rfl rfl rfl rfl rfl rfl rfl rfl) (Di rfl (A2 (Ai (Ak (Aq (S15 4 5 6 8 9 10 12 13 14 44 45 46 60 61 62 rfl rfl rfl rfl rfl rfl rfl rfl rfl rfl rfl rfl rfl rfl rfl) (Av (Gr (Rad rfl rfl) (Gm rfl (Bf (B1 ((k2 + 1), (ma), (mc), (mine)) (by dsimp only; exact ⟨om, (by first | (rw [mine_yes om c70, ← hmi]) | (rw [mine_no om c70, ← hmi]))⟩)))))))))))))))))))))))))))))))))))))))))))))
   ·refine Br (Am (Am (A6 (Ak (Aq (S11 4 5 6 8 9 12 13 14 44 45 46 rfl rfl rfl rfl rfl rfl rfl rfl rfl rfl rfl) (As (Ah (Gm rfl ?_))))))))
    have hmf : mine = mineR R (k : Int) := by rw [hmi, List.take_of_length_le om]
    have htn : ∀ q : Nat, q < mine.length → (at_ mine (q : Int)).on = decide (Int.tmod (q : Int) 2 = 0) := fun q hq => turn_at (by rw [hmf]; exact hRtu k om) hq
    refine Gr (Bl Bw rfl) (Gm rfl (Af (Aq (S14 117 116 115 4 5 6 8 9 12 13 14 44 45 46 rfl rfl rfl rfl rfl rfl rfl rfl rfl rfl rfl rfl rfl rfl) (A0 (Bu (σ := Nat) (fun s => ([(4, I64 (nn)), (5, .slice ad4 es6.length cp5), (6, .pointer (some ⟨b12, 0, none⟩)), (8, .slice ad17 R.length cp18), (9, I64 (0)), (12, .slice ad21 (ringsV nn kd8 wd9 mo10 es6 ([⟨(at_ als15 (k : Int)).kd, (at_ als15 (k : Int)).no, (at_ als15 (k : Int)).lv, (at_ als15 (k : Int)).a, (at_ als15 (k : Int)).c, (at_ als15 (k : Int)).xs, (at_ als15 (k : Int)).num, (at_ als15 (k : Int)).den⟩] : List AlV)).length cp22), (13, I64 (0)), (14, .slice ma mine.length mc), (44, .slice ad13 als15.length cp14), (45, I64 (((als15.length : Nat) : Int))), (46, I64 ((k : Int))), (115, .slice ma mine.length mc), (116, I64 (((mine.length : Nat) : Int))), (117, I64 (((s : Nat) : Int)))] : Env)) (fun s => vc 44 (.slice ma mine.length mc) (mine) :: vc 44 (.slice ad21 (ringsV nn kd8 wd9 mo10 es6 ([⟨(at_ als15 (k : Int)).kd, (at_ als15 (k : Int)).no, (at_ als15 (k : Int)).lv, (at_ als15 (k : Int)).a, (at_ als15 (k : Int)).c, (at_ als15 (k : Int)).xs, (at_ als15 (k : Int)).num, (at_ als15 (k : Int)).den⟩] : List AlV)).length cp22) (ringsV nn kd8 wd9 mo10 es6 ([⟨(at_ als15 (k : Int)).kd, (at_ als15 (k : Int)).no, (at_ als15 (k : Int)).lv, (at_ als15 (k : Int)).a, (at_ als15 (k : Int)).c, (at_ als15 (k : Int)).xs, (at_ als15 (k : Int)).num, (at_ als15 (k : Int)).den⟩] : List AlV)) :: vc 42 (.slice ad20 1 1) (([⟨(at_ als15 (k : Int)).kd, (at_ als15 (k : Int)).no, (at_ als15 (k : Int)).lv, (at_ als15 (k : Int)).a, (at_ als15 (k : Int)).c, (at_ als15 (k : Int)).xs, (at_ als15 (k : Int)).num, (at_ als15 (k : Int)).den⟩] : List AlV)) :: blk b19 [I64 ((at_ als15 (k : Int)).kd), I64 ((at_ als15 (k : Int)).no), I64 ((at_ als15 (k : Int)).lv), .slice (at_ als15 (k : Int)).a (at_ als15 (k : Int)).xs.length (at_ als15 (k : Int)).c, I64 ((at_ als15 (k : Int)).num), I64 ((at_ als15 (k : Int)).den)] 42 :: vc 44 (.slice ad17 R.length cp18) (R) :: vc 42 (.slice ad13 als15.length cp14) (als15) :: blk dk1 [.slice la ln lc, I64 (i16)] 125 :: blk b12 [I64 (kd8), I64 (wd9), I64 (mo10)] 31 :: vc 108 (.slice ad4 es6.length cp5) (es6) :: (ownR 3 (alR als15) ++ I)) (fun s => (s ≤ mine.length)) (fun s => mine.length - s) (0) (show ((0 : Nat) ≤ mine.length) from om) (Aa rfl (Aa rfl (Aa rfl (Aa rfl (Aa rfl (Aa rfl (Aa rfl (Aa rfl (Aa rfl (Aa rfl (Aa rfl (Aa rfl (Aa rfl (Aa Cf Bg)))))))))))))) (show Fit κ _ (vc 44 (.slice ma mine.length mc) (mine) :: vc 44 (.slice ad21 (ringsV nn kd8 wd9 mo10 es6 ([⟨(at_ als15 (k : Int)).kd, (at_ als15 (k : Int)).no, (at_ als15 (k : Int)).lv, (at_ als15 (k : Int)).a, (at_ als15 (k : Int)).c, (at_ als15 (k : Int)).xs, (at_ als15 (k : Int)).num, (at_ als15 (k : Int)).den⟩] : List AlV)).length cp22) (ringsV nn kd8 wd9 mo10 es6 ([⟨(at_ als15 (k : Int)).kd, (at_ als15 (k : Int)).no, (at_ als15 (k : Int)).lv, (at_ als15 (k : Int)).a, (at_ als15 (k : Int)).c, (at_ als15 (k : Int)).xs, (at_ als15 (k : Int)).num, (at_ als15 (k : Int)).den⟩] : List AlV)) :: vc 42 (.slice ad20 1 1) (([⟨(at_ als15 (k : Int)).kd, (at_ als15 (k : Int)).no, (at_ als15 (k : Int)).lv, (at_ als15 (k : Int)).a, (at_ als15 (k : Int)).c, (at_ als15 (k : Int)).xs, (at_ als15 (k : Int)).num, (at_ als15 (k : Int)).den⟩] : List AlV)) :: blk b19 [I64 ((at_ als15 (k : Int)).kd), I64 ((at_ als15 (k : Int)).no), I64 ((at_ als15 (k : Int)).lv), .slice (at_ als15 (k : Int)).a (at_ als15 (k : Int)).xs.length (at_ als15 (k : Int)).c, I64 ((at_ als15 (k : Int)).num), I64 ((at_ als15 (k : Int)).den)] 42 :: vc 44 (.slice ad17 R.length cp18) (R) :: vc 42 (.slice ad13 als15.length cp14) (als15) :: blk dk1 [.slice la ln lc, I64 (i16)] 125 :: blk b12 [I64 (kd8), I64 (wd9), I64 (mo10)] 31 :: vc 108 (.slice ad4 es6.length cp5) (es6) :: (ownR 3 (alR als15) ++ I)) from Az) ?_)))))
    rintro q hp
    have hq := hp
    refine Ah (Gr (Ba rfl rfl) (Af (Aq (S15 118 4 5 6 8 9 12 13 14 44 45 46 115 116 117 rfl rfl rfl rfl rfl rfl rfl rfl rfl rfl rfl rfl rfl rfl rfl) (As (A7 rfl (fun c118 => ?_) (fun c118 => ?_))))))
    ·refine A2 (Ak (Aq (S14 4 5 6 8 9 12 13 14 44 45 46 115 116 117 rfl rfl rfl rfl rfl rfl rfl rfl rfl rfl rfl rfl rfl rfl) (As (A0 (Ah (Gm rfl (Gr (Ax (α := Rg) (xs := mine) Bw ty44 rfl rfl Be om om) (Gr (Bp (α := Rg) (xs := mine) ty44 rfl Be om om) (Ge1 (A8 ty44 rfl) fun b27 => Ga rfl (Ge0 (Es3_3 ty44) ?_))))))))))
     refine Af (Aq (S16 17 18 4 5 6 8 9 12 13 14 44 45 46 115 116 117 rfl rfl rfl rfl rfl rfl rfl rfl rfl rfl rfl rfl rfl rfl rfl rfl) (Ah (Gf fld44_2 rfl (Gl ty4 ?_))))
     refine Gm rfl (Gr (Runs.rem rfl rfl om) (Gr (Bi rfl rfl) (Gr (Runs.neqb D7 rfl rfl) (Af (Aq (S15 127 4 5 6 8 9 12 13 14 44 45 46 115 116 117 rfl rfl rfl rfl rfl rfl rfl rfl rfl rfl rfl rfl rfl rfl rfl) (A7 rfl (fun c127 => ?_) (fun c127 => ?_)))))))
     ·exact absurd (htn q om) c127
     ·exact A2 (Ai (Ak (Aq (S14 4 5 6 8 9 12 13 14 44 45 46 115 116 117 rfl rfl rfl rfl rfl rfl rfl rfl rfl rfl rfl rfl rfl rfl) (Av (Gr (Rad rfl rfl) (Gm rfl (Bf (B1 ((q + 1)) om))))))))
    ·refine Br (Am (Am (A6 (Ak (Aq (S11 4 5 6 8 9 12 13 14 44 45 46 rfl rfl rfl rfl rfl rfl rfl rfl rfl rfl rfl) (Ah (Gm rfl (Gr (Bv rfl rfl) (Gm rfl (Bk (d := 131) rfl (fun g131 => ?_) (fun g131 => ?_)))))))))))
     ·exact absurd rfl g131
     ·refine Gro (Ad rfl) (Gro (Ad rfl) (D6 (Cp rfl rfl rfl) (Al call24 rfl rfl (Same44_ok Be Be)) ?_))
      rintro _ _ ⟨_, _, ⟨rfl, rfl⟩, rfl, rfl⟩
      refine Gro (Dw rfl) (Gr (Ar rfl rfl) (Af (Aq (S9 136 4 5 6 8 9 44 45 46 rfl rfl rfl rfl rfl rfl rfl rfl rfl) (A7 rfl (fun c136 => ?_) (fun c136 => ?_)))))
      ·exact absurd (by rw [hmf]; exact (hRown k om).symm) c136
      ·exact A2 (Ai (Ak (Av (Gr (Rad rfl rfl) (Gm rfl (Bf (B1 ((k + 1)) om)))))))
  ·refine Br (Am (Am (A6 (Ak (Ah (Gm rfl (Gr (Bi rfl rfl) (Gm rfl (Bk (d := 140) rfl (fun g140 => ?_) (fun g140 => ?_))))))))))
   ·refine D6 (Cp rfl rfl rfl) (Al call17 rfl rfl (Awake44_ok (Cb hT A1))) ?_
    rintro _ _ ⟨_, _, ⟨rfl, rfl⟩, rfl, rfl⟩
    exact Gr (Ao rfl rfl) (Ga rfl (Af (Aq (S1 2 rfl) (Ay (A3 rfl rfl (I) A1 ⟨rfl, rfl⟩)))))
   ·exact absurd rfl g140
end Go.Sl
