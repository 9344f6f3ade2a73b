/- A part of the proofs of statements of this seat: contracts of functions, and the plain laws that they lean on. No conditions. -/
import Derived.Test.YtfkcohmipjhfcaaGreatDoorL9
set_option linter.unusedVariables false
set_option linter.unusedSimpArgs false
set_option linter.unusedSectionVars false
namespace Go.Sl
open Go.Proofs
set_option maxRecDepth 4000
theorem addRow_no {rows : List (BitVec 64)} {e : Pt} (h : ¬ (0 ≤ e.u ∧ e.u < e.v ∧ e.v < rows.length)) : addRow rows e = rows := by unfold addRow; rw [if_neg h]
theorem MRows_ok {κ : Ctx} {I : List Item} {nd : Int} {v : Value} {es : List Pt} (hl : Sl κ I v es) :
    CallS Tryz.prog κ 198 [.agg #[I64 (nd), v]] I (fun r J => ∃ a c, r = .slice a (rowsB nd es).length c ∧ J = vc 175 (.slice a (rowsB nd es).length c) (rowsB nd es) :: I) := by
 refine B2 hl.le fun hmax => ?_
 refine Ce1 Tryz.func198 rfl rfl ?_
 refine Ah (Ge1 (Be (cs := [_, _]) rfl rfl rfl) fun b1 => Ga rfl (Af (Ah (Gf fld48_0 rfl (Gl ty3 ?_)))))
 refine Gr (Dq rfl rfl) (Gr (Er rfl rfl) (Ge2 (Ck (α := (BitVec 64)) (n := (min (max nd 0) 64).toNat) Ca ty175 rfl rfl rfl om om dc rfl) fun ad2 cp3 => ?_))
 refine Ga rfl ?_
 have hrep : (List.replicate (min (max nd 0) 64).toNat (default : (BitVec 64))).length = (min (max nd 0) 64).toNat := List.length_replicate
 refine Af (As (Ah (Gf fld48_1 rfl (Gl ty46 ?_))))
 refine Gr (B0 (α := Pt) (xs := es) Bo rfl (Bi hl)) (Gm rfl (Af (A3 (Bx (σ := Nat × (List (BitVec 64))) (fun s => ([(3, .slice ad2 (List.replicate ((min (max nd 0) 64).toNat) (default : (BitVec 64))).length cp3), (12, v), (13, I64 (((es.length : Nat) : Int))), (14, I64 (((s.1 : Nat) : Int)))] : Env)) (fun s => vc 175 (.slice ad2 (List.replicate ((min (max nd 0) 64).toNat) (default : (BitVec 64))).length cp3) (s.2) :: blk b1 [I64 (nd), v] 48 :: I) (fun s => (s.1 ≤ es.length) ∧ (s.2 = rowsB nd (es.take s.1)) ∧ (s.2.length = (min (max nd 0) 64).toNat)) (fun s => es.length - s.1) (0, List.replicate (min (max nd 0) 64).toNat (default : (BitVec 64))) (show ((0 : Nat) ≤ es.length) ∧ ((List.replicate (min (max nd 0) 64).toNat (default : (BitVec 64)) : List (BitVec 64)) = rowsB nd (es.take (0 : Nat))) ∧ ((List.replicate (min (max nd 0) 64).toNat (default : (BitVec 64)) : List (BitVec 64)).length = (min (max nd 0) 64).toNat) from ⟨om, rfl, (by simp)⟩) (Aa rfl (Aa rfl (Aa rfl (Aa Ci Bj)))) (show Fit κ _ (vc 175 (.slice ad2 (List.replicate ((min (max nd 0) 64).toNat) (default : (BitVec 64))).length cp3) ((List.replicate (min (max nd 0) 64).toNat (default : (BitVec 64)))) :: blk b1 [I64 (nd), v] 48 :: I) from A2) ?_))))
 rintro ⟨k, rows⟩ hp
 dsimp only at hp ⊢
 obtain ⟨hk, hr, hrl⟩ := hp
 refine Ah (Gr (A8 rfl rfl) (Af (As (A7 rfl (fun c15 => ?_) (fun c15 => ?_)))))
 ·refine A4 (Aj (As (A3 (Ah (Gr (A0 (α := Pt) (xs := es) Bo ty135 rfl rfl (Bi hl) om oo) (Gr (Bs (α := Pt) (xs := es) ty135 rfl (Bi hl) om oo) (Ge1 (Ba ty135 rfl) fun b4 => Ge0 (Co ty135) ?_)))))))
  refine Af (Ah (Gf fld135_0 rfl (Gl ty3 ?_)))
  refine Gr (Cd rfl rfl) (Gm rfl (Bd (d := 21) rfl (fun g21 => ?_) (fun g21 => ?_)))
  ·refine Gro (Ac fld135_0 rfl) (Gro (Au ty3) ?_)
   refine Gro (Ac fld135_1 rfl) (Gro (Au ty3) ?_)
   refine Gro (A8 rfl rfl) (Gr (Al rfl rfl) (Gm rfl (Bd (d := 28) rfl (fun g28 => ?_) (fun g28 => ?_))))
   ·refine Gro (Ac fld135_1 rfl) (Gro (Au ty3) ?_)
    refine Gro (Ad rfl) (Gro (Bl Ca rfl) (Gro (A8 rfl rfl) (Gr (Al rfl rfl) (Af (Ap (S6 34 5 3 12 13 14 rfl rfl rfl rfl rfl rfl) (A7 rfl (fun c34 => ?_) (fun c34 => ?_)))))))
    ·refine As (Bk mixed (Bp (blk b4 [I64 ((at_ es (k : Int)).u), I64 ((at_ es (k : Int)).v)] 135 :: vc 175 (.slice ad2 (List.replicate ((min (max nd 0) 64).toNat) (default : (BitVec 64))).length cp3) (rows) :: blk b1 [I64 (nd), v] 48 :: I) 10 (Dr 0 rfl (Ad rfl) (Dr 1 rfl (Ac fld135_0 rfl) (Dr 2 rfl (Au ty3) ?_)))))
     refine Dr 3 rfl (A0 (α := (BitVec 64)) (xs := rows) Ca ty175 rfl rfl Bc om oo) (Dr 4 rfl (C2 (α := (BitVec 64)) (xs := rows) (u := U64 ((at_ rows ((at_ es (k : Int)).u)))) ty175 rfl Bc om oo rfl) (Dr 5 rfl (Ac fld135_1 rfl) (Dr 6 rfl (Au ty3) ?_)))
     refine Dr 7 rfl (Runs.shlB (a := 1#64) rfl rfl om om) (Dr 8 rfl (Eq (a := (at_ rows ((at_ es (k : Int)).u))) (b := (1#64) <<< ((at_ es (k : Int)).v).toNat) rfl rfl) (Dr 9 rfl (A0 (α := (BitVec 64)) (xs := rows) Ca ty175 rfl rfl Bc om oo) (C4 kr ?_)))
     refine Ae 10 rfl (Ct (α := (BitVec 64)) (xs := rows) (e := 175) (new := (at_ rows ((at_ es (k : Int)).u)) ||| ((1#64) <<< ((at_ es (k : Int)).v).toNat)) ty175 rfl rfl rfl om oo am) ?_
     rintro _ _ ⟨rfl, rfl⟩
     refine C5 kr ?_
     refine Aj (Ap (S5 5 3 12 13 14 rfl rfl rfl rfl rfl) (Bk mixed (Bp (blk b4 [I64 ((at_ es (k : Int)).u), I64 ((at_ es (k : Int)).v)] 135 :: vc 175 (.slice ad2 (List.replicate ((min (max nd 0) 64).toNat) (default : (BitVec 64))).length cp3) (List.set rows ((at_ es (k : Int)).u).toNat ((at_ rows ((at_ es (k : Int)).u)) ||| ((1#64) <<< ((at_ es (k : Int)).v).toNat))) :: blk b1 [I64 (nd), v] 48 :: I) 10 (Dr 0 rfl (Ad rfl) (Dr 1 rfl (Ac fld135_1 rfl) (Dr 2 rfl (Au ty3) ?_))))))
     refine Dr 3 rfl (A0 (α := (BitVec 64)) (xs := List.set rows ((at_ es (k : Int)).u).toNat ((at_ rows ((at_ es (k : Int)).u)) ||| ((1#64) <<< ((at_ es (k : Int)).v).toNat))) Ca ty175 rfl rfl Bc om oo) (Dr 4 rfl (C2 (α := (BitVec 64)) (xs := List.set rows ((at_ es (k : Int)).u).toNat ((at_ rows ((at_ es (k : Int)).u)) ||| ((1#64) <<< ((at_ es (k : Int)).v).toNat))) (u := U64 ((at_ (List.set rows ((at_ es (k : Int)).u).toNat ((at_ rows ((at_ es (k : Int)).u)) ||| ((1#64) <<< ((at_ es (k : Int)).v).toNat))) ((at_ es (k : Int)).v)))) ty175 rfl Bc om oo rfl) (Dr 5 rfl (Ac fld135_0 rfl) (Dr 6 rfl (Au ty3) ?_)))
     refine Dr 7 rfl (Runs.shlB (a := 1#64) rfl rfl om om) (Dr 8 rfl (Eq (a := (at_ (List.set rows ((at_ es (k : Int)).u).toNat ((at_ rows ((at_ es (k : Int)).u)) ||| ((1#64) <<< ((at_ es (k : Int)).v).toNat))) ((at_ es (k : Int)).v))) (b := (1#64) <<< ((at_ es (k : Int)).u).toNat) rfl rfl) (Dr 9 rfl (A0 (α := (BitVec 64)) (xs := List.set rows ((at_ es (k : Int)).u).toNat ((at_ rows ((at_ es (k : Int)).u)) ||| ((1#64) <<< ((at_ es (k : Int)).v).toNat))) Ca ty175 rfl rfl Bc om oo) (C4 kr ?_)))
     refine Ae 10 rfl (Ct (α := (BitVec 64)) (xs := List.set rows ((at_ es (k : Int)).u).toNat ((at_ rows ((at_ es (k : Int)).u)) ||| ((1#64) <<< ((at_ es (k : Int)).v).toNat))) (e := 175) (new := (at_ (List.set rows ((at_ es (k : Int)).u).toNat ((at_ rows ((at_ es (k : Int)).u)) ||| ((1#64) <<< ((at_ es (k : Int)).v).toNat))) ((at_ es (k : Int)).v)) ||| ((1#64) <<< ((at_ es (k : Int)).u).toNat)) ty175 rfl rfl rfl om oo am) ?_
     rintro _ _ ⟨rfl, rfl⟩
     refine C5 kr ?_
     refine Ai (Aj (Ap (S4 3 12 13 14 rfl rfl rfl rfl) (Av (Gr (Rad rfl rfl) (Gm rfl (Bh ?_))))))
     have hset : List.set (List.set rows ((at_ es (k : Int)).u).toNat ((at_ rows ((at_ es (k : Int)).u)) ||| ((1#64) <<< ((at_ es (k : Int)).v).toNat))) ((at_ es (k : Int)).v).toNat ((at_ (List.set rows ((at_ es (k : Int)).u).toNat ((at_ rows ((at_ es (k : Int)).u)) ||| ((1#64) <<< ((at_ es (k : Int)).v).toNat))) ((at_ es (k : Int)).v)) ||| ((1#64) <<< ((at_ es (k : Int)).u).toNat)) = addRow rows (at_ es (k : Int)) := by unfold addRow; rw [if_pos om]
     rw [hset]
     exact B3 ((k + 1), (addRow rows (at_ es (k : Int)))) (by dsimp only; exact ⟨om, (by rw [rowsB_take om, ← hr]; first | done | exact hset), (by first | exact hrl | (rw [addRow_len]; exact hrl))⟩)
    ·refine A4 (Ai (Aj (Av (Gr (Rad rfl rfl) (Gm rfl (Bh ?_))))))
     have hset : rows = addRow rows (at_ es (k : Int)) := (addRow_no om).symm
     exact B3 ((k + 1), (rows)) (by dsimp only; exact ⟨om, (by rw [rowsB_take om, ← hr]; first | done | exact hset), (by first | exact hrl | (rw [addRow_len]; exact hrl))⟩)
   ·refine Gpo (Gpo (Gpo (Gpo (Gpo (Gr (Aq rfl rfl) (Af (Ap (S6 34 5 3 12 13 14 rfl rfl rfl rfl rfl rfl) (Dj rfl (A4 (Ai (Aj (Av (Gr (Rad rfl rfl) (Gm rfl (Bh ?_)))))))))))))))
    have hset : rows = addRow rows (at_ es (k : Int)) := (addRow_no om).symm
    exact B3 ((k + 1), (rows)) (by dsimp only; exact ⟨om, (by rw [rowsB_take om, ← hr]; first | done | exact hset), (by first | exact hrl | (rw [addRow_len]; exact hrl))⟩)
  ·refine Gpo (Gpo (Gpo (Gpo (Gpo (Gr (Aq rfl rfl) (Gm rfl (Gpo (Gpo (Gpo (Gpo (Gpo (Gr (Aq rfl rfl) (Af (Ap (S6 34 5 3 12 13 14 rfl rfl rfl rfl rfl rfl) (Dj rfl (A4 (Ai (Aj (Av (Gr (Rad rfl rfl) (Gm rfl (Bh ?_))))))))))))))))))))))
   have hset : rows = addRow rows (at_ es (k : Int)) := (addRow_no om).symm
   exact B3 ((k + 1), (rows)) (by dsimp only; exact ⟨om, (by rw [rowsB_take om, ← hr]; first | done | exact hset), (by first | exact hrl | (rw [addRow_len]; exact hrl))⟩)
 ·refine Bt (Ao (Ao (A5 (Aj (Ah (Gm rfl (Ga rfl (Af (Ay ?_)))))))))
  rw [List.take_of_length_le om] at hr
  subst hr
  have hle : (rowsB nd es).length = (List.replicate (min (max nd 0) 64).toNat (default : (BitVec 64))).length := by omega
  exact A1 rfl rfl (vc 175 (.slice ad2 (rowsB nd es).length cp3) (rowsB nd es) :: I) (by rw [hle]; exact A2) ⟨_, _, by rw [hle], rfl⟩
theorem Check03G_ok {κ : Ctx} {I : List Item} {nd : Int} {v : Value} {es : List Pt} (hl : Sl κ I v es) :
    CallS Tryz.prog κ 30 [.agg #[I64 (nd), v]] I (fun r J => r = I64 (checkG nd es) ∧ I = J) := by
 refine B2 hl.le fun hmax => ?_
 refine Ce1 Tryz.func30 rfl rfl ?_
 refine Ah (Ge1 (Be (cs := [_, _]) rfl rfl rfl) fun b1 => Ga rfl (Af (As (Ah (Gf fld48_0 rfl (Gl ty3 ?_))))))
 refine Gr (A8 rfl rfl) (Gm rfl (Bd (d := 8) rfl (fun g8 => ?_) (fun g8 => ?_)))
 ·exact Gpo (Gpo (Gpo (Gr (Al rfl rfl) (Af (Cn rfl (Ah (Ga rfl (Af (Ay (Ak (A1 rfl rfl (I) Ax ⟨by rw [show checkG nd es = 1 from (by unfold checkG; rw [if_pos om])], rfl⟩)))))))))))
 ·refine Gro (Ac fld48_0 rfl) (Gro (Au ty3) ?_)
  refine Gro (B7 rfl rfl) (Gr (Aq rfl rfl) (Af (A7 rfl (fun c12 => ?_) (fun c12 => ?_))))
  ·exact Ah (Ga rfl (Af (Ay (Ak (A1 rfl rfl (I) Ax ⟨by rw [show checkG nd es = 1 from (by unfold checkG; rw [if_pos om])], rfl⟩)))))
  ·refine A4 (Aj (As (Ah (Gf fld48_1 rfl (Gl ty46 ?_)))))
   refine Gr (B0 (α := Pt) (xs := es) Bo rfl (Bi hl)) (Gm rfl (Af (Ap (S4 16 15 14 1 rfl rfl rfl rfl) (A3 (Bx (σ := Nat) (fun s => ([(1, .pointer (some ⟨b1, 0, none⟩)), (14, v), (15, I64 (((es.length : Nat) : Int))), (16, I64 (((s : Nat) : Int)))] : Env)) (fun s => blk b1 [I64 (nd), v] 48 :: I) (fun s => (s ≤ es.length) ∧ (checkG nd es = scanL (badE nd) Pt.lt (prevAt es s) (es.drop s))) (fun s => es.length - s) (0) (show ((0 : Nat) ≤ es.length) ∧ (checkG nd es = scanL (badE nd) Pt.lt (prevAt es (0 : Nat)) (es.drop (0 : Nat))) from ⟨om, (by unfold checkG; rw [if_neg om]; rfl)⟩) (Aa rfl (Aa rfl (Aa rfl (Aa Ci Bj)))) (show Fit κ _ (blk b1 [I64 (nd), v] 48 :: I) from A2) ?_)))))
   rintro k hp
   obtain ⟨hk, hs⟩ := hp
   refine Ah (Gr (A8 rfl rfl) (Af (As (A7 rfl (fun c17 => ?_) (fun c17 => ?_)))))
   ·refine A4 (Aj (As (A3 (Ah (Gm rfl (Gr (A0 (α := Pt) (xs := es) Bo ty135 rfl rfl (Bi hl) om om) (Gr (Bs (α := Pt) (xs := es) ty135 rfl (Bi hl) om om) (Ge1 (Ba ty135 rfl) fun b2 => Ga rfl (Ge0 (Co ty135) ?_)))))))))
    refine Af (As (Ah (Gf fld135_0 rfl (Gl ty3 ?_))))
    refine Gr (A8 rfl rfl) (Gm rfl (Bd (d := 24) rfl (fun g24 => ?_) (fun g24 => ?_)))
    ·exact Gpo (Gpo (Gpo (Gpo (Gpo (Gr (Al rfl rfl) (Gm rfl (Gpo (Gpo (Gpo (Gpo (Gpo (Gr (Al rfl rfl) (Af (Ap (S7 37 3 4 1 14 15 16 rfl rfl rfl rfl rfl rfl rfl) (Cn rfl (Ah (Ga rfl (Af (Ay (Ak (Ar (Ak (Ak (Ar (Ak (A1 rfl rfl (I) Ax ⟨by rw [show checkG nd es = 6 from (hs.trans ((Dc om (by unfold badE; rw [if_pos om]; decide)).trans (by unfold badE; rw [if_pos om])))], rfl⟩))))))))))))))))))))))))))
    ·refine Gro (Ac fld135_0 rfl) (Gro (Au ty3) ?_)
     refine Gro (Ac fld135_1 rfl) (Gro (Au ty3) ?_)
     refine Gro (Cd rfl rfl) (Gr (Aq rfl rfl) (Gm rfl (Bd (d := 31) rfl (fun g31 => ?_) (fun g31 => ?_))))
     ·exact Gpo (Gpo (Gpo (Gpo (Gpo (Gr (Al rfl rfl) (Af (Ap (S7 37 3 4 1 14 15 16 rfl rfl rfl rfl rfl rfl rfl) (Cn rfl (Ah (Ga rfl (Af (Ay (Ak (Ar (Ak (Ak (Ar (Ak (A1 rfl rfl (I) Ax ⟨by rw [show checkG nd es = 6 from (hs.trans ((Dc om (by unfold badE; rw [if_pos om]; decide)).trans (by unfold badE; rw [if_pos om])))], rfl⟩)))))))))))))))))))
     ·refine Gro (Ac fld135_1 rfl) (Gro (Au ty3) ?_)
      refine Gro (Ac fld48_0 rfl) (Gro (Au ty3) ?_)
      refine Gro (Cd rfl rfl) (Gr (Aq rfl rfl) (Af (Ap (S7 37 3 4 1 14 15 16 rfl rfl rfl rfl rfl rfl rfl) (A7 rfl (fun c37 => ?_) (fun c37 => ?_)))))
      ·exact Ah (Ga rfl (Af (Ay (Ak (Ar (Ak (Ak (Ar (Ak (A1 rfl rfl (I) Ax ⟨by rw [show checkG nd es = 6 from (hs.trans ((Dc om (by unfold badE; rw [if_pos om]; decide)).trans (by unfold badE; rw [if_pos om])))], rfl⟩))))))))))
      ·refine A4 (Aj (As (Bk mixed (Bp (blk b2 [I64 ((at_ es (k : Int)).u), I64 ((at_ es (k : Int)).v)] 135 :: blk b1 [I64 (nd), v] 48 :: I) 13 (Dr 0 rfl (Ad rfl) (Dr 1 rfl (B7 rfl rfl) (Dr 2 rfl (Ad rfl) (Do (d := 40) rfl (fun g40 => ?_) (fun g40 => ?_)))))))))
       ·refine Dro 3 rfl (Ac fld48_1 rfl) (Dro 4 rfl (Au ty46) ?_)
        refine Dro 5 rfl (Ad rfl) (Dro 6 rfl (Rsu rfl rfl) (Dro 7 rfl (A0 (α := Pt) (xs := es) Bo ty135 rfl rfl (Bi hl) om om) (Dro 8 rfl (Bs (α := Pt) (xs := es) ty135 rfl (Bi hl) om om) (Dro 9 rfl (Bm (vs := [_, _]) ty135) ?_))))
        refine Ds1 10 (Sc0 rfl (Am call84 rfl rfl (Before03_ok (at_ es ((k : Int) - 1)) (at_ es (k : Int)))) ?_)
        refine Dro 11 rfl (Dt rfl) (Dr 12 rfl (Al rfl rfl) (Dz (Aj (Ap (S5 50 1 14 15 16 rfl rfl rfl rfl rfl) (A7 rfl (fun c50 => ?_) (fun c50 => ?_))))))
        ·exact Ah (Ga rfl (Af (Ay (Ar (Ak (Ak (Ar (Ak (A1 rfl rfl (I) Ax ⟨by rw [show checkG nd es = 5 from (hs.trans (scanL_order om (badE_zero.2 om) om (by first | assumption | simpa using c50)))], rfl⟩)))))))))
        ·exact A4 (Ai (Aj (Av (Gr (Rad rfl rfl) (Gm rfl (Bh (B3 ((k + 1)) ⟨om, (hs.trans (Et om (badE_zero.2 om) (fun h0 => by first | omega | exact Classical.not_not.1 asm | assumption)))⟩)))))))
       ·exact Dpo 3 rfl (Dpo 4 rfl (Dpo 5 rfl (Dpo 6 rfl (Dpo 7 rfl (Dpo 8 rfl (Dpo 9 rfl (Dpo 10 rfl (Dpo 11 rfl (Dr 12 rfl (Aq rfl rfl) (Dz (Aj (Ap (S5 50 1 14 15 16 rfl rfl rfl rfl rfl) (Dj rfl (A4 (Ai (Aj (Av (Gr (Rad rfl rfl) (Gm rfl (Bh (B3 ((k + 1)) ⟨om, (hs.trans (Et om (badE_zero.2 om) (fun h0 => by first | omega | exact Classical.not_not.1 asm | assumption)))⟩)))))))))))))))))))))
   ·exact Bt (Ao (Ao (A5 (Aj (Ah (Ga rfl (Af (Ay (A1 rfl rfl (I) Ax ⟨by rw [show checkG nd es = 0 from (hs.trans (scanL_end om))], rfl⟩)))))))))
section
variable {P : Program} {κ : Ctx} {N : Frm} {L : Env} {I J : List Item} {d : Option Tmp} {ty : TypeId} {ps : String} {af : Array Edge} {gd : Option (Nat × Bool)}
theorem vc.isSome {α : Type} [Enc α] {xs : List α} {e : TypeId} {ad : Option Addr} {n c : Nat} (h : vc e (.slice ad n c) xs ∈ I) : ∀ w, Sep κ w I → (0 < xs.length → ad ≠ none) := fun w hs hlt => by
 obtain ⟨b, o, cap, h0, _⟩ := ((El (κ := κ) h) w hs).some hlt
 cases h0
 exact fun hh => by cases hh
theorem Runs.idxs (α : Type) [Enc α] {x y : Operand} {T E by' n c : Nat} {ag : Bool} {z : List Value} {ad : Option Addr} {i : Int} (ht : P.underlying T = some (.slice E)) (hE : tyF P E = some (Enc.sz α, ag, by', z)) (hx : evalO L x = some (.slice ad n c))
  (hy : evalO L y = some (I64 i)) (ha : ad ≠ none) (h0 : 0 ≤ i) (hn : i < n) : Runs P κ N ⟨d, .indexAddr T x y, ty, ps, af, gd⟩ L J (elemPtr (.slice ad n c) (i.toNat * Enc.sz α)) := by
 cases ad with
 | none => exact absurd rfl ha
 | some ad => exact fun a w ha hs => by simp [execOp, ha.eval hx, ha.eval hy, Instr.indexAt, asIntOf, run_underlying ht, h0, hn, run_sizeOf hE, elemPtr]
end
variable {κ : Ctx} {I : List Item}
theorem ApplyP_ok {nd : Int} {e : Ev} {a0 : Option Addr} {c0 : Nat} {xs : List Lk} (hv : checkS nd xs = 0) (hf : FitOk nd e) (hsz : xs.length ≤ 100000) :
    CallS Tryz.prog κ 141 [.agg #[I64 (nd), .slice a0 xs.length c0], .agg #[I64 (e.kd), I64 (e.tm), I64 (e.u), I64 (e.v), I64 (e.w), I64 (e.lb), I64 (e.sg)]] (vc 146 (.slice a0 xs.length c0) (xs) :: I) (fun r J => ∃ a c w, r = .tuple #[.agg #[I64 nd, .slice a (stepL xs e).length c], w, I64 0] ∧ J = vc 146 (.slice a (stepL xs e).length c) (stepL xs e) :: I) := by
 refine Ce2 Tryz.func141 rfl rfl ?_
 refine Ah (Ge1 (Be (cs := [_, _]) rfl rfl rfl) fun b1 => Ge1 (Be (cs := [_, _, _, _, _, _, _]) rfl rfl rfl) fun b2 => Ge1 (Ba ty111 rfl) fun b3 => Ga rfl (Ga rfl (Af (Ah (Gl2 ty111 ?_)))))
 refine G.e (Am call214 rfl rfl (CheckS_ok (nd := nd) Bc)) ?_
 rintro _ _ ⟨_, _, ⟨rfl, rfl⟩, rfl, rfl⟩
 refine Ga rfl (Af (As (Ah (Gm rfl (Gr (Bb rfl rfl) (Af (A7 rfl (fun c13 => ?_) (fun c13 => ?_))))))))
 ·refine Av (Gf fld111_0 rfl (Gl ty3 ?_))
  refine Gl7 ty108 ?_
  refine Gc0 (Am call210 rfl rfl (FitsE_ok nd e)) ?_
  refine Ga rfl (Af (Ap (S4 7 4 3 2 rfl rfl rfl rfl) (As (Ah (Gm rfl (Gr (Bw rfl rfl) (Af (A7 rfl (fun c19 => ?_) (fun c19 => ?_)))))))))
  ·exact absurd (fitE_ok.2 hf) c19
  ·refine A4 (Aj (Ah (Gl2 ty111 ?_)))
   refine Gl7 ty108 ?_
   refine G.e (Am call215 rfl rfl (StepP_at (by repeat (first | exact AtF.head _ _ | apply AtF.tail)) rfl (checkS_ok hv).2.2 om)) ?_
   rintro _ _ ⟨_, _, ⟨⟨ad4, cp5, wv6⟩, rfl, rfl⟩, rfl, rfl⟩
   show G Tryz.prog κ _ _ _ _ ([(25, .tuple #[.agg #[I64 (nd), .slice ad4 (stepL xs e).length cp5], wv6]), (24, .agg #[I64 (e.kd), I64 (e.tm), I64 (e.u), I64 (e.v), I64 (e.w), I64 (e.lb), I64 (e.sg)]), (23, .agg #[I64 (nd), .slice a0 xs.length c0]), (19, .bool (decide ((fitE nd e) ≠ 0))), (18, I64 (fitE nd e)), (7, I64 (fitE nd e)), (4, .pointer (some ⟨b3, 0, none⟩)), (3, .pointer (some ⟨b2, 0, none⟩)), (2, .pointer (some ⟨b1, 0, none⟩))] : Env) (blk b3 [I64 (0), .slice none 0 0] 111 :: blk b2 [I64 (e.kd), I64 (e.tm), I64 (e.u), I64 (e.v), I64 (e.w), I64 (e.lb), I64 (e.sg)] 108 :: blk b1 [I64 (nd), .slice a0 xs.length c0] 111 :: vc 146 (.slice ad4 (stepL xs e).length cp5) (stepL xs e) :: I)
   refine Gm rfl (Gr (Az rfl rfl) (Gr (Az rfl rfl) (Ge1 (Ba ty111 rfl) fun b7 => Ge0 (Co ty111) ?_)))
   refine Ga rfl (Af (Ap (S3 9 8 4 rfl rfl rfl) (Ah (Gf fld111_1 rfl (Gl ty109 ?_)))))
   refine G.e (Am call216 rfl rfl (CloneL (xs := stepL xs e) Bc (by have h := stepL_len xs e; omega))) ?_
   rintro _ _ ⟨_, _, ⟨ad8, cp9, rfl, rfl⟩, rfl, rfl⟩
   refine Gf fld111_1 rfl (Ge0 (Es2_1 ty109) ?_)
   refine Af (Ah (Gl2 ty111 ?_))
   refine Gm rfl (Ge0 (Co ty111) ?_)
   exact Ga rfl (Ga rfl (Af (Ay (V.retc2 rfl ty111 rfl rfl rfl mm rfl (vc 146 (.slice ad8 (stepL xs e).length cp9) (stepL xs e) :: I) B6 ⟨ad8, cp9, wv6, rfl, rfl⟩))))
 ·exact absurd hv c13
theorem edgesK_take {xs : List Lk} {k : Nat} (h : k < xs.length) : edgesK (xs.take (k + 1)) = edgesK (xs.take k) ++ [(⟨(at_ xs (k : Int)).u, (at_ xs (k : Int)).v⟩ : Pt)] := by
 unfold edgesK; rw [Cx xs k h, List.map_append]; rfl
theorem LEdges_ok {nd : Int} {va : Value} {xs : List Lk} (hl : Sl κ I va xs) (hsz : xs.length ≤ 100000) :
    CallS Tryz.prog κ 231 [.agg #[I64 (nd), va]] I (fun r J => ∃ a c, r = .agg #[I64 nd, .slice a (edgesK xs).length c] ∧ J = vc 135 (.slice a (edgesK xs).length c) (edgesK xs) :: I) := by
 refine B2 hl.le fun hmax => ?_
 refine Ce1 Tryz.func231 rfl rfl ?_
 refine Ah (Ge1 (Be (cs := [_, _]) rfl rfl rfl) fun b1 => Ge1 (Ba ty48 rfl) fun b2 => Af (Ah (Gf fld111_0 rfl (Gl ty3 ?_))))
 refine Gr (Bf (cells := [_, _]) ty48 Tryz.underlying48 pl48 rfl rfl) (Ge1 (Ba ty48 rfl) fun b3 => Ge0 (Co ty48) ?_)
 refine Af (As (Ah (Gf fld111_1 rfl (Gl ty109 ?_))))
 refine Gr (B0 (α := Lk) (xs := xs) Aw rfl (Bi hl)) (Gm rfl (Af (A3 (Bx (σ := Nat × (Option Addr) × Nat × (List Pt)) (fun s => ([(2, .pointer (some ⟨b2, 0, none⟩)), (3, .pointer (some ⟨b3, 0, none⟩)), (10, va), (11, I64 (((xs.length : Nat) : Int))), (12, I64 (((s.1 : Nat) : Int)))] : Env)) (fun s => vc 135 (.slice s.2.1 s.2.2.2.length s.2.2.1) (s.2.2.2) :: blk b3 [I64 (nd), .slice s.2.1 s.2.2.2.length s.2.2.1] 48 :: blk b2 [I64 (0), .slice none 0 0] 48 :: blk b1 [I64 (nd), va] 111 :: I) (fun s => (s.1 ≤ xs.length) ∧ (s.2.2.2 = edgesK (xs.take s.1))) (fun s => xs.length - s.1) (0, none, 0, []) (show ((0 : Nat) ≤ xs.length) ∧ (([] : List Pt) = edgesK (xs.take (0 : Nat))) from ⟨om, rfl⟩) (Aa rfl (Aa rfl (Aa rfl (Aa rfl (Aa Ci Bj))))) (show Fit κ _ (vc 135 (.slice (none) ([]).length (0)) (([])) :: blk b3 [I64 (nd), .slice (none) ([]).length (0)] 48 :: blk b2 [I64 (0), .slice none 0 0] 48 :: blk b1 [I64 (nd), va] 111 :: I) from (Bv _ _)) ?_))))
 rintro ⟨k, a, c, out⟩ hp
 dsimp only at hp ⊢
 obtain ⟨hk, ho⟩ := hp
 have hol : out.length = k := by rw [ho, edgesK_len, List.length_take]; omega
 refine Ah (Gr (A8 rfl rfl) (Af (As (A7 rfl (fun c13 => ?_) (fun c13 => ?_)))))
 ·refine A4 (Aj (As (A3 (Ah (Gr (A0 (α := Lk) (xs := xs) Aw ty146 rfl rfl (Bi hl) om om) (Gr (Bs (α := Lk) (xs := xs) ty146 rfl (Bi hl) om om) (Ge1 (Ba ty146 rfl) fun b4 => Ge0 (Dg ty146) ?_)))))))
  refine Af (Av (Gf fld48_1 rfl (Gl ty46 ?_)))
  refine Gf fld146_0 rfl (Gl ty3 ?_)
  refine Gf fld146_1 rfl (Gl ty3 ?_)
  refine Gr (Bf (cells := [_, _]) ty135 Db pl135 rfl rfl) (Ge1 (B5 (α := Pt) (cs := [_, _]) (xs := [⟨(at_ xs (k : Int)).u, (at_ xs (k : Int)).v⟩]) Bo ty135 rfl rfl dc dc rfl rfl rfl rfl) fun ad5 => ?_)
  refine Ge2 (Ce (α := Pt) (e := 135) (xs := out) (ys := ([⟨(at_ xs (k : Int)).u, (at_ xs (k : Int)).v⟩] : List Pt)) Bo ty135 rfl rfl rfl mm Bc lcn dc rfl (fun _ _ => am)) fun ad6 cp7 => ?_
  refine Gf fld48_1 rfl (Ge0 (Es2_1 ty46) ?_)
  exact Bh (Ai (Aj (Ap (S5 2 3 10 11 12 rfl rfl rfl rfl rfl) (Av (Gr (Rad rfl rfl) (Gm rfl (Bh (B3 ((k + 1), (ad6), (cp7), (out ++ ([⟨(at_ xs (k : Int)).u, (at_ xs (k : Int)).v⟩] : List Pt))) (by dsimp only; exact ⟨om, (by rw [edgesK_take om, ← ho])⟩)))))))))
 ·refine Bt (Ao (Ao (A5 (Aj (Ah (Gl2 ty48 ?_))))))
  refine Ge0 (Co ty48) ?_
  refine Af (Ay ?_)
  have hE : out = edgesK xs := by rw [ho, List.take_of_length_le om]
  exact Du rfl ty48 rfl mm rfl (vc 135 (.slice a (edgesK xs).length c) (edgesK xs) :: I) (by rw [← hE]; exact B6) ⟨a, c, by rw [← hE] <;> rfl, rfl⟩
theorem LGraph_ok {nd : Int} {va : Value} {xs : List Lk} (hl : Sl κ I va xs) (hv : checkS nd xs = 0) (hsz : xs.length ≤ 100000) :
    CallS Tryz.prog κ 167 [.agg #[I64 (nd), va]] I (fun r J => ∃ a c, r = .tuple #[.agg #[I64 nd, .slice a (edgesK xs).length c], I64 0] ∧ J = vc 135 (.slice a (edgesK xs).length c) (edgesK xs) :: I) := by
 refine Ce1 Tryz.func167 rfl rfl ?_
 refine Ah (Ge1 (Be (cs := [_, _]) rfl rfl rfl) fun b1 => Ge1 (Ba ty48 rfl) fun b2 => Ga rfl (Af (As (Ah (Gl2 ty111 ?_)))))
 refine G.e (Am call214 rfl rfl (CheckS_ok (nd := nd) (Bi hl))) ?_
 rintro _ _ ⟨_, _, ⟨rfl, rfl⟩, rfl, rfl⟩
 refine Ga rfl (Af (Ah (Gm rfl (Gr (Bw rfl rfl) (Af (A7 rfl (fun c8 => ?_) (fun c8 => ?_)))))))
 ·exact absurd hv c8
 ·refine A4 (Aj (Ah (Gl2 ty111 ?_)))
  refine G.e (Am call231 rfl rfl (LEdges_ok (nd := nd) (Bi hl) om)) ?_
  rintro _ _ ⟨_, _, ⟨ad3, cp4, rfl, rfl⟩, rfl, rfl⟩
  refine Ge0 (Co ty48) ?_
  exact Ga rfl (Af (Ay (Dp rfl ty48 rfl rfl mm rfl (vc 135 (.slice ad3 (edgesK xs).length cp4) (edgesK xs) :: I) B6 ⟨ad3, cp4, rfl, rfl⟩)))
theorem LateC_ok (x y : Ev) :
    CallS Tryz.prog κ 230 [.agg #[I64 (x.kd), I64 (x.tm), I64 (x.u), I64 (x.v), I64 (x.w), I64 (x.lb), I64 (x.sg)], .agg #[I64 (y.kd), I64 (y.tm), I64 (y.u), I64 (y.v), I64 (y.w), I64 (y.lb), I64 (y.sg)]] I (fun r J => r = I64 (evC x y) ∧ I = J) := by
 refine Ce2 Tryz.func230 rfl rfl ?_
 refine Ah (Ge1 (Be (cs := [_, _, _, _, _, _, _]) rfl rfl rfl) fun b1 => Ge1 (Be (cs := [_, _, _, _, _, _, _]) rfl rfl rfl) fun b2 => Ga rfl (Af (Ah (Gf fld108_1 rfl (Gl ty3 ?_)))))
 refine Gf fld108_1 rfl (Gl ty3 ?_)
 refine Gc0 (Am call225 rfl rfl (Compare_ok x.tm y.tm)) ?_
 exact Ga rfl (Af (Ay (A1 rfl rfl (I) Ax ⟨by first | rfl | (unfold evC; repeat (first | rfl | omega | split)) | (unfold evC; congr 1; repeat (first | rfl | omega | split)), rfl⟩)))
variable {κ : Ctx} {I : List Item}
theorem InsSortE_ok {a : Option Addr} {c : Nat} {xs : List Ev} (hn : xs.length ≤ 1000) :
    CallS Tryz.prog κ 315 [.slice a xs.length c, I64 (0), I64 (((xs.length : Nat) : Int)), .func (.func 230) #[] #[]] (vc 108 (.slice a xs.length c) (xs) :: I) (fun r J => r = .tuple #[] ∧ J = vc 108 (.slice a xs.length c) (isortG evC xs) :: I) := by
 refine B2 (p := 0 < xs.length → a ≠ none) (vc.isSome mm) fun hsm => ?_
 refine Ce4 Tryz.func315 rfl rfl ?_
 refine Ah (Gm rfl (Gr (Rad rfl rfl) (Ga rfl (Af (A3 (Bx (σ := Nat × (List Ev)) (fun s => ([(0, .slice a xs.length c), (1, I64 (0)), (2, I64 (((xs.length : Nat) : Int))), (3, .func (.func 230) #[] #[]), (8, I64 (((s.1 : Nat) : Int)))] : Env)) (fun s => vc 108 (.slice a xs.length c) (s.2) :: I) (fun s => (1 ≤ s.1 ∧ (s.1 ≤ xs.length ∨ s.1 = 1)) ∧ (s.2 = (isortG evC (xs.take s.1)) ++ xs.drop s.1)) (fun s => xs.length - s.1) (1, xs) (show (1 ≤ (1 : Nat) ∧ ((1 : Nat) ≤ xs.length ∨ (1 : Nat) = 1)) ∧ ((xs : List Ev) = (isortG evC (xs.take (1 : Nat))) ++ xs.drop (1 : Nat)) from ⟨om, (by cases xs <;> rfl)⟩) (Aa rfl (Aa rfl (Aa rfl (Aa rfl (Aa Ci Bj))))) (show Fit κ _ (vc 108 (.slice a xs.length c) ((xs)) :: I) from A2) ?_))))))
 rintro ⟨i, ys⟩ hp
 dsimp only at hp ⊢
 obtain ⟨hi, hy⟩ := hp
 have hil := fun h : i ≤ xs.length => isort_tlenG evC h
 have hyl : ys.length = xs.length := by rw [hy, List.length_append, List.length_drop]; rcases hi.2 with h | h; (· have := hil h; omega); (· subst h; cases xs with | nil => rfl | cons x t => (have := hil (by simp); simp at this ⊢; omega))
 refine As (Ah (Gm rfl (Gm rfl (Gr (A8 rfl rfl) (Af (A7 rfl (fun c14 => ?_) (fun c14 => ?_)))))))
 ·refine A4 (Aj (As (A3 (Ah (Gm rfl (Ga rfl (Af (A3 (Bx (σ := Nat × (List Ev)) (fun s => ([(0, .slice a xs.length c), (1, I64 (0)), (2, I64 (((xs.length : Nat) : Int))), (3, .func (.func 230) #[] #[]), (8, I64 ((i : Int))), (9, I64 (((s.1 : Nat) : Int)))] : Env)) (fun s => vc 108 (.slice a xs.length c) (s.2) :: I) (fun s => (s.1 ≤ i) ∧ (s.2 = insG (isortG evC (xs.take i)) s.1 (at_ xs (i : Int)) ++ xs.drop (i + 1)) ∧ (placeG evC (isortG evC (xs.take i)) (at_ xs (i : Int)) s.1 = placeG evC (isortG evC (xs.take i)) (at_ xs (i : Int)) i)) (fun s => s.1) (i, ys) (show ((i : Nat) ≤ i) ∧ ((ys : List Ev) = insG (isortG evC (xs.take i)) (i : Nat) (at_ xs (i : Int)) ++ xs.drop (i + 1)) ∧ (placeG evC (isortG evC (xs.take i)) (at_ xs (i : Int)) (i : Nat) = placeG evC (isortG evC (xs.take i)) (at_ xs (i : Int)) i) from ⟨om, (by rw [hy]; exact ins_startG om), rfl⟩) (Aa rfl (Aa rfl (Aa rfl (Aa rfl (Aa rfl (Aa Ci Bj)))))) (show Fit κ _ (vc 108 (.slice a xs.length c) ((ys)) :: I) from A2) ?_)))))))))
  rintro ⟨j, zs⟩ hp
  dsimp only at hp ⊢
  obtain ⟨hj, hzs, hpl⟩ := hp
  have hil2 := hil om
  have hz0 : at_ zs (j : Int) = (at_ xs (i : Int)) := by rw [hzs]; exact at_midG om
  have hz1 : 0 < j → at_ zs ((j : Int) - 1) = at_ (isortG evC (xs.take i)) ((j : Int) - 1) := fun h => by rw [hzs]; exact at_prevG h om
  have hzl : zs.length = xs.length := by rw [hzs, List.length_append, List.length_drop]; unfold insG; rw [List.length_append, List.length_cons, List.length_take, List.length_drop]; omega
  refine As (As (Bk mixed (Bp (vc 108 (.slice a xs.length c) (zs) :: I) 17 (Dr 0 rfl (Ad rfl) (Dr 1 rfl (Ad rfl) (Dr 2 rfl (B7 rfl rfl) (Dr 3 rfl (Ad rfl) (Do (d := 21) rfl (fun g21 => ?_) (fun g21 => ?_)))))))))
  ·refine Dro 4 rfl (Ad rfl) (Dro 5 rfl (Ad rfl) (Dro 6 rfl (Ad rfl) (Dro 7 rfl (A0 (α := Ev) (xs := zs) A6 ty108 rfl rfl Bc om oo) (Dro 8 rfl (Bs (α := Ev) (xs := zs) ty108 rfl Bc om oo) (Dro 9 rfl (Ad rfl) (Dro 10 rfl (Ad rfl) (Dro 11 rfl (Rsu rfl rfl) (Dro 12 rfl (A0 (α := Ev) (xs := zs) A6 ty108 rfl rfl Bc om oo) (Dro 13 rfl (Bs (α := Ev) (xs := zs) ty108 rfl Bc om oo) (Ds1 14 (Sc0 rfl (Cp call230 rfl rfl rfl (LateC_ok (at_ zs (j : Int)) (at_ zs ((j : Int) - 1)))) ?_)))))))))))
   refine Dro 15 rfl (A8 rfl rfl) (Dr 16 rfl (Al rfl rfl) (Dz (Aj (Ap (S7 34 0 1 2 3 8 9 rfl rfl rfl rfl rfl rfl rfl) (A7 rfl (fun c34 => ?_) (fun c34 => ?_))))))
   ·refine A4 (Aj (As (A3 (Bk mixed (Bp (I) 18 (Dr 0 rfl (Ad rfl) (Dr 1 rfl (Ad rfl) (Dr 2 rfl (Ad rfl) (Dr 3 rfl (Ad rfl) (Dr 4 rfl (Rsu rfl rfl) (Dr 5 rfl (Ad rfl) (Dr 6 rfl (Ad rfl) (Dr 7 rfl (Rsu rfl rfl) (Dr 8 rfl (Runs.idxs Ev A6 ty108 rfl rfl (hsm om) om om) (Dr 10 rfl (Ad rfl) (Dr 11 rfl (Ad rfl) (Dr 12 rfl (Runs.idxs Ev A6 ty108 rfl rfl (hsm om) om om) (Dv (rs := [9, 13]) kr rfl rfl (all2 ?_ (all1 ?_))))))))))))))))))))
    ·refine Sr rfl (Bs (α := Ev) (xs := zs) ty108 rfl Bc om oo) A2 ?_
     refine Ds1 13 (Sr rfl (Bs (α := Ev) (xs := zs) ty108 rfl Bc om oo) A2 ?_)
     refine Dr 14 rfl (Runs.idxs Ev A6 ty108 rfl rfl (hsm om) om om) (Ds1 15 (Se0 rfl (Ct (α := Ev) (xs := zs) (e := 108) (new := ⟨(at_ zs ((j : Int) - 1)).kd, (at_ zs ((j : Int) - 1)).tm, (at_ zs ((j : Int) - 1)).u, (at_ zs ((j : Int) - 1)).v, (at_ zs ((j : Int) - 1)).w, (at_ zs ((j : Int) - 1)).lb, (at_ zs ((j : Int) - 1)).sg⟩) ty108 rfl rfl rfl om oo am) ?_))
     refine Dr 16 rfl (Runs.idxs Ev A6 ty108 rfl rfl (hsm om) om om) (Ds1 17 (Se0 rfl (Ct (α := Ev) (xs := List.set zs ((j : Int)).toNat (⟨(at_ zs ((j : Int) - 1)).kd, (at_ zs ((j : Int) - 1)).tm, (at_ zs ((j : Int) - 1)).u, (at_ zs ((j : Int) - 1)).v, (at_ zs ((j : Int) - 1)).w, (at_ zs ((j : Int) - 1)).lb, (at_ zs ((j : Int) - 1)).sg⟩)) (e := 108) (new := ⟨(at_ zs (j : Int)).kd, (at_ zs (j : Int)).tm, (at_ zs (j : Int)).u, (at_ zs (j : Int)).v, (at_ zs (j : Int)).w, (at_ zs (j : Int)).lb, (at_ zs (j : Int)).sg⟩) ty108 rfl rfl rfl om oo am) ?_))
     exact Dz (Ai (Aj (Ap (S6 0 1 2 3 8 9 rfl rfl rfl rfl rfl rfl) (Av (Gm rfl (Gr (Rsu rfl rfl) (Ga rfl (Bh (B3 ((j - 1), (List.set (List.set zs ((j : Int)).toNat (⟨(at_ zs ((j : Int) - 1)).kd, (at_ zs ((j : Int) - 1)).tm, (at_ zs ((j : Int) - 1)).u, (at_ zs ((j : Int) - 1)).v, (at_ zs ((j : Int) - 1)).w, (at_ zs ((j : Int) - 1)).lb, (at_ zs ((j : Int) - 1)).sg⟩)) ((j : Int) - 1).toNat (⟨(at_ zs (j : Int)).kd, (at_ zs (j : Int)).tm, (at_ zs (j : Int)).u, (at_ zs (j : Int)).v, (at_ zs (j : Int)).w, (at_ zs (j : Int)).lb, (at_ zs (j : Int)).sg⟩))) (by dsimp only; exact ⟨om, (by have hsw := ins_swapG (l := (isortG evC (xs.take i))) (r := xs.drop (i + 1)) (x := (at_ xs (i : Int))) (show 0 < j by omega) om; rw [← hzs, ← hz0, ← hz1 om] at hsw; rw [hz0] at hsw ⊢; rw [show (((j : Int)).toNat) = j by omega, show (((j : Int) - 1).toNat) = j - 1 by omega]; exact hsw), ((place_stepG om (by rw [← hz1 om, ← hz0]; assumption)).trans hpl)⟩))))))))))
    ·refine Sr rfl (Bs (α := Ev) (xs := zs) ty108 rfl Bc om oo) A2 ?_
     refine Ds1 9 (Sr rfl (Bs (α := Ev) (xs := zs) ty108 rfl Bc om oo) A2 ?_)
     refine Dr 14 rfl (Runs.idxs Ev A6 ty108 rfl rfl (hsm om) om om) (Ds1 15 (Se0 rfl (Ct (α := Ev) (xs := zs) (e := 108) (new := ⟨(at_ zs ((j : Int) - 1)).kd, (at_ zs ((j : Int) - 1)).tm, (at_ zs ((j : Int) - 1)).u, (at_ zs ((j : Int) - 1)).v, (at_ zs ((j : Int) - 1)).w, (at_ zs ((j : Int) - 1)).lb, (at_ zs ((j : Int) - 1)).sg⟩) ty108 rfl rfl rfl om oo am) ?_))
     refine Dr 16 rfl (Runs.idxs Ev A6 ty108 rfl rfl (hsm om) om om) (Ds1 17 (Se0 rfl (Ct (α := Ev) (xs := List.set zs ((j : Int)).toNat (⟨(at_ zs ((j : Int) - 1)).kd, (at_ zs ((j : Int) - 1)).tm, (at_ zs ((j : Int) - 1)).u, (at_ zs ((j : Int) - 1)).v, (at_ zs ((j : Int) - 1)).w, (at_ zs ((j : Int) - 1)).lb, (at_ zs ((j : Int) - 1)).sg⟩)) (e := 108) (new := ⟨(at_ zs (j : Int)).kd, (at_ zs (j : Int)).tm, (at_ zs (j : Int)).u, (at_ zs (j : Int)).v, (at_ zs (j : Int)).w, (at_ zs (j : Int)).lb, (at_ zs (j : Int)).sg⟩) ty108 rfl rfl rfl om oo am) ?_))
     exact Dz (Ai (Aj (Ap (S6 0 1 2 3 8 9 rfl rfl rfl rfl rfl rfl) (Av (Gm rfl (Gr (Rsu rfl rfl) (Ga rfl (Bh (B3 ((j - 1), (List.set (List.set zs ((j : Int)).toNat (⟨(at_ zs ((j : Int) - 1)).kd, (at_ zs ((j : Int) - 1)).tm, (at_ zs ((j : Int) - 1)).u, (at_ zs ((j : Int) - 1)).v, (at_ zs ((j : Int) - 1)).w, (at_ zs ((j : Int) - 1)).lb, (at_ zs ((j : Int) - 1)).sg⟩)) ((j : Int) - 1).toNat (⟨(at_ zs (j : Int)).kd, (at_ zs (j : Int)).tm, (at_ zs (j : Int)).u, (at_ zs (j : Int)).v, (at_ zs (j : Int)).w, (at_ zs (j : Int)).lb, (at_ zs (j : Int)).sg⟩))) (by dsimp only; exact ⟨om, (by have hsw := ins_swapG (l := (isortG evC (xs.take i))) (r := xs.drop (i + 1)) (x := (at_ xs (i : Int))) (show 0 < j by omega) om; rw [← hzs, ← hz0, ← hz1 om] at hsw; rw [hz0] at hsw ⊢; rw [show (((j : Int)).toNat) = j by omega, show (((j : Int) - 1).toNat) = j - 1 by omega]; exact hsw), ((place_stepG om (by rw [← hz1 om, ← hz0]; assumption)).trans hpl)⟩))))))))))
   ·exact Bt (Ao (Ao (A5 (Ai (Aj (Av (Gm rfl (Gr (Rad rfl rfl) (Ga rfl (Bh (B3 ((i + 1), (zs)) (by dsimp only; exact ⟨om, (by rw [hzs]; exact ins_endsG om hpl (by first | exact .inl om | (by_cases h0 : j = 0; (· exact .inl h0); (· exact .inr ⟨by omega, by rw [← hz0, ← hz1 om]; assumption⟩))))⟩))))))))))))
  ·exact Dpo 4 rfl (Dpo 5 rfl (Dpo 6 rfl (Dpo 7 rfl (Dpo 8 rfl (Dpo 9 rfl (Dpo 10 rfl (Dpo 11 rfl (Dpo 12 rfl (Dpo 13 rfl (Dpo 14 rfl (Dpo 15 rfl (Dr 16 rfl (Aq rfl rfl) (Dz (Aj (Ap (S7 34 0 1 2 3 8 9 rfl rfl rfl rfl rfl rfl rfl) (Dj rfl (Bt (Ao (Ao (A5 (Ai (Aj (Av (Gm rfl (Gr (Rad rfl rfl) (Ga rfl (Bh (B3 ((i + 1), (zs)) (by dsimp only; exact ⟨om, (by rw [hzs]; exact ins_endsG om hpl (by first | exact .inl om | (by_cases h0 : j = 0; (· exact .inl h0); (· exact .inr ⟨by omega, by rw [← hz0, ← hz1 om]; assumption⟩))))⟩)))))))))))))))))))))))))))))
 ·refine Bt (Ao (Ao (A5 ?_)))
  have hE : ys = isortG evC xs := by rw [hy]; rcases hi.2 with h | h; (· have e : i = xs.length := om; rw [e, List.take_length, List.drop_length, List.append_nil]); (· rw [List.take_of_length_le om, List.drop_eq_nil_of_le om, List.append_nil])
  exact V.end0 rfl (vc 108 (.slice a xs.length c) (isortG evC xs) :: I) (by rw [hE]; exact A2) ⟨rfl, rfl⟩
theorem StableE_ok {a : Option Addr} {c : Nat} {xs : List Ev} (hn : xs.length ≤ 19) :
    CallS Tryz.prog κ 280 [.slice a xs.length c, I64 (((xs.length : Nat) : Int)), .func (.func 230) #[] #[]] (vc 108 (.slice a xs.length c) (xs) :: I) (fun r J => r = .tuple #[] ∧ J = vc 108 (.slice a xs.length c) (isortG evC xs) :: I) := by
 refine Ce3 Tryz.func280 rfl rfl ?_
 refine Ah (Ga rfl (Af (Ah (Gm rfl (Ga rfl (Ga rfl (Af (As (A3 (Bx (σ := Nat) (fun s => ([(0, .slice a xs.length c), (1, I64 (((xs.length : Nat) : Int))), (2, .func (.func 230) #[] #[]), (6, I64 (20)), (7, I64 (0)), (8, I64 (20))] : Env)) (fun s => vc 108 (.slice a xs.length c) (xs) :: I) (fun s => True) (fun s => 0) (0) (show True from trivial) (Aa rfl (Aa rfl (Aa rfl (Aa rfl (Aa rfl (Aa rfl Bj)))))) (show Fit κ _ (vc 108 (.slice a xs.length c) (xs) :: I) from A2) ?_))))))))))
 rintro z hp
 refine As (Ah (Gm rfl (Gm rfl (Gr (Dx rfl rfl) (Af (A7 rfl (fun c13 => ?_) (fun c13 => ?_)))))))
 ·omega
 ·refine Bt (Ao (Ao (A5 (Aj (Ah (Gm rfl (Gm rfl (Gm rfl (Gm rfl (Gc1 (Am call315 rfl rfl (Cm (J := vc 108 (.slice a xs.length c) (xs) :: I) B6 (InsSortE_ok (xs := xs) om))) ?_))))))))))
  refine Af (Ap (S4 0 1 2 6 rfl rfl rfl rfl) (A3 (Bx (σ := Nat) (fun s => ([(0, .slice a xs.length c), (1, I64 (((xs.length : Nat) : Int))), (2, .func (.func 230) #[] #[]), (6, I64 (20))] : Env)) (fun s => vc 108 (.slice a xs.length c) (isortG evC xs) :: I) (fun s => True) (fun s => 0) (0) (show True from trivial) (Aa rfl (Aa rfl (Aa rfl (Aa rfl Bj)))) (show Fit κ _ (vc 108 (.slice a xs.length c) (isortG evC xs) :: I) from A2) ?_)))
  rintro z hp
  refine As (Ah (Gm rfl (Gm rfl (Gr (A8 rfl rfl) (Af (A7 rfl (fun c30 => ?_) (fun c30 => ?_)))))))
  ·omega
  ·exact Bt (Ao (Ao (A5 (V.end0 rfl (vc 108 (.slice a xs.length c) (isortG evC xs) :: I) A2 ⟨rfl, rfl⟩))))
theorem SortStableE_ok {a : Option Addr} {c : Nat} {xs : List Ev} (hn : xs.length ≤ 19) :
    CallS Tryz.prog κ 229 [.slice a xs.length c, .func (.func 230) #[] #[]] (vc 108 (.slice a xs.length c) (xs) :: I) (fun r J => r = .tuple #[] ∧ J = vc 108 (.slice a xs.length c) (isortG evC xs) :: I) := by
 refine Ce2 Tryz.func229 rfl rfl ?_
 refine Av (Gm rfl (Gm rfl (Gr (Bl A6 rfl) (Gm rfl (Gc1 (Am call280 rfl rfl (Cm (J := vc 108 (.slice a xs.length c) (xs) :: I) B6 (StableE_ok (xs := xs) om))) ?_)))))
 exact Bh (V.end0 rfl (vc 108 (.slice a xs.length c) (isortG evC xs) :: I) A2 ⟨rfl, rfl⟩)
theorem late_yes {kd wd : Int} {xs : List Lk} {k : Nat} (h : k < xs.length) (h1 : kd = 2) (h2 : (at_ xs (k : Int)).tm + wd ≤ 1048576) : lateL kd wd (xs.take (k + 1)) = lateL kd wd (xs.take k) ++ [cutAt wd (at_ xs (k : Int))] := by
 rw [lateL_take h, if_pos (show lateP kd wd (at_ xs (k : Int)) = true from decide_eq_true ⟨h1, h2⟩)]
theorem late_no {kd wd : Int} {xs : List Lk} {k : Nat} (h : k < xs.length) (h1 : ¬ kd = 2 ∨ ¬ (at_ xs (k : Int)).tm + wd ≤ 1048576) : lateL kd wd (xs.take (k + 1)) = lateL kd wd (xs.take k) := by
 rw [lateL_take h, if_neg (fun h => by have h3 := of_decide_eq_true h; rcases h1 with h1 | h1 <;> omega), List.append_nil]
theorem Late_ok {nd kd wd mo : Int} {va : Value} {xs : List Lk} (hl : Sl κ I va xs) (hv : checkS nd xs = 0) (hw : 0 ≤ wd ∧ wd ≤ 1048576) (hsz : xs.length ≤ 19) :
    CallS Tryz.prog κ 166 [.agg #[I64 (nd), va], .agg #[I64 (kd), I64 (wd), I64 (mo)]] I (fun r J => ∃ a c, r = .slice a (isortG evC (lateL kd wd xs)).length c ∧ J = vc 108 (.slice a (isortG evC (lateL kd wd xs)).length c) (isortG evC (lateL kd wd xs)) :: I) := by
 refine B2 hl.le fun hmax => ?_
 refine Ce2 Tryz.func166 rfl rfl ?_
 refine Ah (Ge1 (Be (cs := [_, _]) rfl rfl rfl) fun b1 => Ge1 (Be (cs := [_, _, _]) rfl rfl rfl) fun b2 => Ga rfl (Af (Ah (Ga rfl (Af (As (Ah (Gf fld111_1 rfl (Gl ty109 ?_)))))))))
 refine Gr (B0 (α := Lk) (xs := xs) Aw rfl (Bi hl)) (Gm rfl (Af (A3 (Bx (σ := Nat × (Option Addr) × Nat × (List Ev)) (fun s => ([(3, .pointer (some ⟨b2, 0, none⟩)), (5, .slice s.2.1 s.2.2.2.length s.2.2.1), (10, va), (11, I64 (((xs.length : Nat) : Int))), (12, I64 (((s.1 : Nat) : Int)))] : Env)) (fun s => vc 108 (.slice s.2.1 s.2.2.2.length s.2.2.1) (s.2.2.2) :: blk b2 [I64 (kd), I64 (wd), I64 (mo)] 31 :: blk b1 [I64 (nd), va] 111 :: I) (fun s => (s.1 ≤ xs.length) ∧ (s.2.2.2 = lateL kd wd (xs.take s.1))) (fun s => xs.length - s.1) (0, none, 0, []) (show ((0 : Nat) ≤ xs.length) ∧ (([] : List Ev) = lateL kd wd (xs.take (0 : Nat))) from ⟨om, rfl⟩) (Aa rfl (Aa (Cy rfl (by first | rfl | simp)) (Aa rfl (Aa rfl (Aa Ci Bj))))) (show Fit κ _ (vc 108 (.slice (none) ([]).length (0)) (([])) :: blk b2 [I64 (kd), I64 (wd), I64 (mo)] 31 :: blk b1 [I64 (nd), va] 111 :: I) from (Bv _ _)) ?_))))
 rintro ⟨k, a, c, out⟩ hp
 dsimp only at hp ⊢
 obtain ⟨hk, ho⟩ := hp
 have hol : out.length ≤ k := by rw [ho]; have h1 := lateL_len kd wd (xs.take k); rw [List.length_take] at h1; omega
 refine Ah (Gr (A8 rfl rfl) (Af (As (A7 rfl (fun c13 => ?_) (fun c13 => ?_)))))
 ·refine A4 (Aj (As (A3 (Ah (Gr (A0 (α := Lk) (xs := xs) Aw ty146 rfl rfl (Bi hl) om om) (Gr (Bs (α := Lk) (xs := xs) ty146 rfl (Bi hl) om om) (Ge1 (Ba ty146 rfl) fun b3 => Ge0 (Dg ty146) ?_)))))))
  have htk := checkS_tm hv (k : Int) om om
  refine Af (Ah (Gf fld146_5 rfl (Gl ty3 ?_)))
  refine Gf fld31_1 rfl (Gl ty3 ?_)
  refine Gr (Rad rfl rfl) (Ga rfl (Af (Ap (S7 8 7 3 5 10 11 12 rfl rfl rfl rfl rfl rfl rfl) (Ah (Gf fld31_0 rfl (Gl ty3 ?_))))))
  refine Gr (Bb rfl rfl) (Gm rfl (Bd (d := 24) rfl (fun g24 => ?_) (fun g24 => ?_)))
  ·refine Gro (Ad rfl) (Gro (Dx rfl rfl) (Gr (Al rfl rfl) (Af (Ap (S8 27 8 7 3 5 10 11 12 rfl rfl rfl rfl rfl rfl rfl rfl) (A7 rfl (fun c27 => ?_) (fun c27 => ?_))))))
   ·refine Av (Gm rfl (Gm rfl (Gf fld146_0 rfl (Gl ty3 ?_))))
    refine Gf fld146_1 rfl (Gl ty3 ?_)
    refine Gr (Bf (cells := [_, _, _, _, _, _, _]) ty108 Tryz.underlying108 pl108 rfl rfl) (Ge1 (B5 (α := Ev) (cs := [I64 (2), I64 (((at_ xs (k : Int)).tm) + wd), I64 ((at_ xs (k : Int)).u), I64 ((at_ xs (k : Int)).v), I64 (0), I64 (0), I64 (0)]) (xs := [⟨2, ((at_ xs (k : Int)).tm) + wd, (at_ xs (k : Int)).u, (at_ xs (k : Int)).v, 0, 0, 0⟩]) A6 ty108 rfl rfl dc dc rfl kr rfl rfl) fun ad4 => ?_)
    refine Ge2 (Ce (α := Ev) (e := 108) (xs := out) (ys := ([⟨2, ((at_ xs (k : Int)).tm) + wd, (at_ xs (k : Int)).u, (at_ xs (k : Int)).v, 0, 0, 0⟩] : List Ev)) A6 ty108 rfl rfl rfl mm Bc lcn dc rfl (fun _ _ => am)) fun ad5 cp6 => ?_
    exact Ga rfl (Bh (Ai (Aj (Ap (S5 5 3 10 11 12 rfl rfl rfl rfl rfl) (Av (Gr (Rad rfl rfl) (Gm rfl (Bh (B3 ((k + 1), (ad5), (cp6), (out ++ ([⟨2, ((at_ xs (k : Int)).tm) + wd, (at_ xs (k : Int)).u, (at_ xs (k : Int)).v, 0, 0, 0⟩] : List Ev))) (by dsimp only; exact ⟨om, (by first | (rw [late_yes om g24 asm, ← ho]; rfl) | (rw [late_no om (.inl g24), ← ho]) | (rw [late_no om (.inr asm), ← ho]))⟩))))))))))
   ·exact A4 (Ai (Aj (Av (Gr (Rad rfl rfl) (Gm rfl (Bh (B3 ((k + 1), (a), (c), (out)) (by dsimp only; exact ⟨om, (by first | (rw [late_yes om g24 asm, ← ho]; rfl) | (rw [late_no om (.inl g24), ← ho]) | (rw [late_no om (.inr asm), ← ho]))⟩))))))))
  ·exact Gpo (Gpo (Gr (Aq rfl rfl) (Af (Ap (S8 27 8 7 3 5 10 11 12 rfl rfl rfl rfl rfl rfl rfl rfl) (Dj rfl (A4 (Ai (Aj (Av (Gr (Rad rfl rfl) (Gm rfl (Bh (B3 ((k + 1), (a), (c), (out)) (by dsimp only; exact ⟨om, (by first | (rw [late_yes om g24 asm, ← ho]; rfl) | (rw [late_no om (.inl g24), ← ho]) | (rw [late_no om (.inr asm), ← ho]))⟩))))))))))))))
 ·refine Bt (Ao (Ao (A5 (Aj (Ah (Gm rfl (Gc1 (Am call229 rfl rfl (Cm (J := vc 108 (.slice a out.length c) (out) :: blk b2 [I64 (kd), I64 (wd), I64 (mo)] 31 :: blk b1 [I64 (nd), va] 111 :: I) B6 (SortStableE_ok (xs := out) om))) ?_)))))))
  refine Af (Ah (Gm rfl (Ga rfl (Af (Ay ?_)))))
  have hE : out = lateL kd wd xs := by rw [ho, List.take_of_length_le om]
  have hEl : (isortG evC out).length = out.length := (isort_permG evC out).length_eq
  exact A1 rfl rfl (vc 108 (.slice a (isortG evC (lateL kd wd xs)).length c) (isortG evC (lateL kd wd xs)) :: I) (by rw [← hE, hEl]; exact B6) ⟨a, c, by rw [← hE, hEl], rfl⟩
end Go.Sl
namespace Go.Sl
open Go.RowKit (Below)
section
variable {P : Program} {κ : Ctx} {N : Frm} {Q : Exit → Act → World → Prop} {L : Env} {I J : List Item} {ops : Array Oper} {l m : Nat}
theorem WR.cond {c : Operand} {x y : Code} {t : Bool} (hc : evalO L c = some (.bool t)) (h1 : t = true → WR P κ N l m x Q L I) (h2 : t = false → WR P κ N l m y Q L I) : WR P κ N l m (.cond c x y) Q L I :=
 fun a w ha hs => wpIn_cond_split (ha.eval hc) (fun h => h1 h a w ha hs) (fun h => h2 h a w ha hs)
theorem WR.ite {c : Operand} {x y : Code} {p : Prop} [Decidable p] (hc : evalO L c = some (.bool (decide p))) (h1 : p → WR P κ N l m x Q L I) (h2 : ¬ p → WR P κ N l m y Q L I) : WR P κ N l m (.cond c x y) Q L I :=
 WR.cond hc (fun h => h1 (of_decide_eq_true h)) (fun h => h2 (of_decide_eq_false h))
theorem WR.skip (h : V κ N Q .normal L I) : WR P κ N l m .skip Q L I := fun a w ha hs => wpIn_skip (h a w ha hs)
theorem WR.exit {id : Nat} (h : V κ N Q (.exit id) L I) : WR P κ N l m (.exit id) Q L I := fun a w ha hs => wpIn_exit (h a w ha hs)
def YieldB (P : Program) (κ : Ctx) (l : Nat) (args : List Value) (I : List Item) (Post : Bool → List Item → Prop) : Prop := ∀ w, Sep κ w I → YieldAt Fence.wide 0 P l args.toArray w fun e w' => ∃ b, e = .returned (.bool b) ∧ ∃ J, Post b J ∧ Sep κ w' J
theorem V.roundB {r : Loop} {Post : Bool → List Item → Prop} (J : List Item) (hf : Fit κ I (recI l { r with state := .busy } :: J)) (hp : r.state = .ready ∧ r.pending = none) (hP : Post true (recI l r :: J)) : V κ N (roundPost P l fun e w' => ∃ b, e = .returned (.bool b) ∧ ∃ K, Post b K ∧ Sep κ w' K) .normal L I := fun a w ha hs => by
 have hs' := hf w hs
 have hl := (hs'.ok _ List.mem_cons_self).1
 refine ⟨_, _, run_endRound none hl, true, rfl, ?_⟩
 have e : ({ ({ r with state := .busy } : Loop) with state := if (none : Option Code).isNone then .ready else .done, pending := none } : Loop) = r := by
  obtain ⟨h1, h2⟩ := hp
  cases r; simp_all
 rw [e]
 exact ⟨_, hP, hs'.putRec⟩
theorem V.roundX {r : Loop} {Post : Bool → List Item → Prop} {id : Nat} (J : List Item) (hf : Fit κ I (recI l { r with state := .busy } :: J)) (hP : Post false (recI l { r with state := .done, pending := some (.exit id) } :: J)) : V κ N (roundPost P l fun e w' => ∃ b, e = .returned (.bool b) ∧ ∃ K, Post b K ∧ Sep κ w' K) (.exit id) L I := fun a w ha hs => by
 have hs' := hf w hs
 have hl := (hs'.ok _ List.mem_cons_self).1
 exact ⟨_, _, run_endRound (some (.exit id)) hl, false, rfl, _, hP, hs'.putRec⟩
theorem YieldB.mk {r : Loop} {Post : Bool → List Item → Prop} {args : List Value} {L₁ : Env} (hps : args.length = r.params.size) (hrd : r.state = .ready ∧ r.pending = none) {body : Code} (hb : r.body = body)
  (hassign : ∀ (w : World) (K : Act → World → Prop), (∀ a₁, Ag N a₁ L₁ → K a₁ w) → r.assign.wpIn (Fence.wide.inRound l) 0 P (Exit.then K (fun _ _ _ => False)) { tmps := (r.params.zip args.toArray).foldl (fun t (p, v) => t.setIfInBounds p v) r.tmps, defers := [] } w)
  (hbody : WR P κ N l 0 body (roundPost P l fun e w' => ∃ b, e = .returned (.bool b) ∧ ∃ K, Post b K ∧ Sep κ w' K) L₁ (recI l { r with state := .busy } :: I)) :
  YieldB P κ l args (recI l r :: I) Post := fun w hs => by
 have hl := (hs.ok _ List.mem_cons_self).1
 refine ⟨_, _, _, _, run_yield hl (by simpa using hps), roundIn_of_wpIn trivial ?_⟩
 refine hassign w _ fun a₁ ha => ⟨_, run_beginRound hl hrd.1, ?_⟩
 have h := hbody a₁ _ ha hs.putRec
 rw [← hb] at h
 exact h
theorem fold_two (tm : Array Value) (p q : Tmp) (v u : Value) : (#[p, q].zip [v, u].toArray).foldl (fun t (p, v) => t.setIfInBounds p v) tm = (tm.setIfInBounds p v).setIfInBounds q u := by simp
theorem GY.yieldB {rest : List Oper} {Post : Bool → List Item → Prop} {l dd : Nat} {x : Operand} {xs : List Operand} {vs : List Value} {ats : Array TypeId} {ty : TypeId} {ps : String} {af : Array Edge} {gd : Option (Nat × Bool)}
  (hw : Wanted N ops ⟨some dd, .call { callee := .value x, args := xs.toArray, argTypes := ats }, ty, ps, af, gd⟩ L) (hfv : evalO L x = some (.func (.yield l) #[] #[])) (hx : evalL L xs = some vs) (hN : Nat.blt dd N.n = true) (hy : YieldB P κ l vs I Post)
  (h : ∀ b J, Post b J → GY P κ N ops Q rest ((dd, .bool b) :: L) J) : GY P κ N ops Q (⟨some dd, .call { callee := .value x, args := xs.toArray, argTypes := ats }, ty, ps, af, gd⟩ :: rest) L I := fun a w ha hs => by
 obtain ⟨fn, tmps, assign, body, hyr, hR⟩ := hy w hs
 have he : (execOp a.eval ⟨some dd, .call { callee := .value x, args := xs.toArray, argTypes := ats }, ty, ps, af, gd⟩).run P w = .ok (.round l fn tmps assign body) w := by
  simp only [execOp, resolve, ha.eval hfv, Deferred.ofValue, invoke, Sem.run_bind, Sem.run_pure, Result.andThen_ok, List.map_toArray, ha.evalL hx]
  simpa using hyr
 unfold wpListIn
 rw [if_pos (hw a ha)]
 refine ⟨fun _ _ => trivial, ?_⟩
 simp only [Fence.wide_round, Oper.semAt_none, he, Oper.uponIn]
 refine ⟨fun hd => by simp [Fence.wide] at hd, hR.mono fun e w' ⟨b, h1, J, hP, h2⟩ => ?_⟩
 subst h1
 exact h b J hP _ w' (ha.put dd hN _) h2
theorem GY.pass {o : Oper} {rest : List Oper} {d : Nat} (hw : Unwanted N ops o L) (hd : o.dst = some d) (hN : Nat.blt d N.n = true) (h : GY P κ N ops Q rest ((d, undef) :: L) I) : GY P κ N ops Q (o :: rest) L I :=
 fun a w ha hs => by
  unfold wpListIn
  rw [if_neg (by simp [hw a ha])]
  rw [hd]
  exact ⟨fun _ _ => trivial, h _ w (ha.put d hN _) hs⟩
theorem YieldB.fit {l : Nat} {args : List Value} {Post : Bool → List Item → Prop} (hf : Fit κ I J) (h : YieldB P κ l args J Post) : YieldB P κ l args I Post := fun w hs => h w (hf w hs)
theorem perm_fr {A L T : List Item} : (A ++ (L ++ T)).Perm (L ++ (A ++ T)) := by
 rw [← List.append_assoc, ← List.append_assoc]; exact List.perm_append_comm.append_right T
theorem W.rangeFnB {g : Operand} {ps : Array Tmp} {assign body : Code} {gf : FuncId} {lb : List Value} (hg : evalO L g = some (.func (.func gf) #[] lb.toArray)) (hc : callable P gf = true)
  (h : ∀ (D l : Nat) (r : Loop), (r.state = .ready ∧ r.pending = none) → r.params = ps → r.assign = assign → r.body = body → Ag ⟨N.n, []⟩ { tmps := r.tmps, defers := [] } L →
   CallS P κ gf (.func (.yield l) #[] #[] :: lb) (recI l r :: dfrI D :: I) fun v K =>
    (∃ J, K = recI l r :: dfrI D :: J ∧ V κ ⟨N.n, markD D :: N.ds⟩ Q .normal L (dfrI D :: J)) ∨
    ∃ c J, K = recI l { r with state := .done, pending := some c } :: dfrI D :: J ∧ W P κ ⟨N.n, markD D :: N.ds⟩ c Q L (dfrI D :: J)) :
  W P κ N (.rangeFunc g ps assign body) Q L I := fun a w ha hs => by
 refine (wpIn_wide (n := 0)).1 (wpIn_rangeFunc ?_)
 intro fn _
 obtain ⟨r, hr⟩ : ∃ r : Loop, r = { state := .ready, pending := none, fn, tmps := a.tmps, params := ps, assign, body, defers := w.heap.size } := ⟨_, rfl⟩
 obtain ⟨W1, hW1⟩ : ∃ W1, (w.alloc (.deferred (some []))).alloc (.loop r) = W1 := ⟨_, rfl⟩
 have hD1 : (w.alloc (.deferred (some []))).heap[w.heap.size]? = some (.deferred (some [])) := World.alloc_heap_new w _
 have s1 : Sep κ (w.alloc (.deferred (some []))) (dfrI w.heap.size :: I) := hs.new (hs.alloc _) hD1 fun k hk => by obtain rfl : k = _ := hk; exact ⟨Nat.le_refl _, by simp⟩
 have hL1 : W1.heap[w.heap.size + 1]? = some (.loop r) := by
  rw [← hW1]; have := World.alloc_heap_new (w.alloc (.deferred (some []))) (.loop r); rwa [World.size_alloc] at this
 have s2 : Sep κ W1 (recI (w.heap.size + 1) r :: dfrI w.heap.size :: I) := by
  rw [← hW1]
  exact s1.new (s1.alloc _) (by rw [hW1]; exact hL1) fun k hk => by obtain rfl : k = _ := hk; exact ⟨by simp, by simp⟩
 have hcall := h w.heap.size (w.heap.size + 1) r (by rw [hr]; exact ⟨rfl, rfl⟩) (by rw [hr]) (by rw [hr]) (by rw [hr]) ⟨rfl, by rw [hr]; exact ha.size, by rw [hr]; exact ha.get⟩ W1 s2
 refine ⟨w.heap.size + 1, [markD w.heap.size], W1, { target := .fn (.func gf) lb.toArray, args := #[.func (.yield (w.heap.size + 1)) #[] #[]] }, W1, gf, #[.func (.yield (w.heap.size + 1)) #[] #[]] ++ lb.toArray, W1, ?_, ?_, fun _ _ => trivial, ?_, fun hd => by simp [Fence.wide] at hd, ?_⟩
 ·rw [← hW1, hr]; exact run_enterLoop_outer _ _ _ _ _
 ·simp only [resolve, ha.eval hg]
  simp [go_sem]
 ·simp [invoke, go_sem, run_callFunc hc]
 ·refine callsIn_wide.2 ?_
  have e1 : (#[.func (.yield (w.heap.size + 1)) #[] #[]] ++ lb.toArray : Array Value) = (Value.func (.yield (w.heap.size + 1)) #[] #[] :: lb).toArray := by simp
  rw [e1]
  have hag : ∀ (N' : Frm) (t : Array Value), True → True := fun _ _ _ => trivial
  refine hcall.mono fun e w' ⟨v, K, he, hK, hs'⟩ => ?_
  subst he
  rcases hK with ⟨J, hK, hV⟩ | ⟨c, J, hK, hW⟩
  ·subst hK
   have hl := (hs'.ok _ List.mem_cons_self).1
   have hst : r.state ≠ .busy := by rw [hr]; exact fun h => by cases h
   refine ⟨_, _, run_endLoop hl hst, ?_⟩
   have hp : r.pending = none := by rw [hr]
   rw [hp]
   exact hV _ _ ⟨by show [markD w.heap.size] ++ a.defers = _; rw [ha.defers]; rfl, ha.size, ha.get⟩ hs'.putRec.tail
  ·subst hK
   have hl := (hs'.ok _ List.mem_cons_self).1
   refine ⟨_, _, run_endLoop hl (fun h => by cases h), ?_⟩
   exact wpIn_wide.2 (hW _ _ ⟨by show [markD w.heap.size] ++ a.defers = _; rw [ha.defers]; rfl, ha.size, ha.get⟩ hs'.putRec.tail)
end
end Go.Sl
/- Searching what is left of a network: the plain law of the search by layers. No Go. -/
namespace Go.Sl
section
variable (n : Net) (f out : List Int)
def un : Nat := out.count (-1)
end
section
variable {n : Net} {f out todo : List Int} {x : Int} {k1 k2 : Nat}
theorem un_set {y i : Int} (hy : 0 ≤ y ∧ y < out.length) (h : at_ out y = -1) (hi : i ≠ -1) : un (out.set y.toNat i) + 1 = un out := by
 unfold un
 have hl : y.toNat < out.length := by omega
 have hg : out[y.toNat] = -1 := by rw [at_eq hy.1 hy.2] at h; exact h
 rw [List.count_set hl]
 have hpos : 0 < out.count (-1) := List.count_pos_iff.2 (hg ▸ List.getElem_mem hl)
 have e1 : (out[y.toNat] == (-1 : Int)) = true := by simp [hg]
 have e2 : (i == (-1 : Int)) = false := by simpa using hi
 rw [e1, e2]
 simp only [if_true, Bool.false_eq_true, if_false]
 omega
end
end Go.Sl
/- Flows and cuts: the plain law. No Go. -/
namespace Go.Sl
def netF (n : Net) (f : List Int) (v : Int) : Int :=
 sumN n.arcs.length fun k => (if (at_ n.arcs (k : Int)).frm = v then at_ f (k : Int) else 0) - (if (at_ n.arcs (k : Int)).dst = v then at_ f (k : Int) else 0)
structure IsFlow (n : Net) (f : List Int) : Prop where
 len : f.length = n.arcs.length
 cap : ∀ k : Nat, k < n.arcs.length → 0 ≤ at_ f (k : Int) ∧ at_ f (k : Int) ≤ (at_ n.arcs (k : Int)).cap
 cons : ∀ v, 0 ≤ v → v < n.nodes → v ≠ n.source → v ≠ n.sink → netF n f v = 0
def cutS (n : Net) (S : Int → Bool) : Int := sumN n.arcs.length fun k => if S (at_ n.arcs (k : Int)).frm && !S (at_ n.arcs (k : Int)).dst then (at_ n.arcs (k : Int)).cap else 0
theorem arc_at {n : Net} (hok : n.Ok) {k : Nat} (hk : k < n.arcs.length) : (0 ≤ (at_ n.arcs (k : Int)).frm ∧ (at_ n.arcs (k : Int)).frm < n.nodes) ∧ (0 ≤ (at_ n.arcs (k : Int)).dst ∧ (at_ n.arcs (k : Int)).dst < n.nodes) ∧ (at_ n.arcs (k : Int)).frm ≠ (at_ n.arcs (k : Int)).dst ∧ 0 ≤ (at_ n.arcs (k : Int)).cap ∧ (at_ n.arcs (k : Int)).cap ≤ 1099511627776 :=
 hok.arc _ (Ch om om)
theorem sumN_ind {m : Nat} {v : Int} (h0 : 0 ≤ v) (h1 : v < m) (S : Int → Bool) (c : Int) : sumN m (fun j => if S (j : Int) then (if v = (j : Int) then c else 0) else 0) = if S v then c else 0 := by
 have e : v = ((v.toNat : Nat) : Int) := by omega
 rw [Di m (h := fun j => if j = v.toNat then (if S v then c else 0) else 0) fun j hj => ?_]
 ·exact sumN_at om _
 ·by_cases hj : j = v.toNat
  ·subst hj; rw [if_pos rfl, ← e, if_pos rfl]
  ·rw [if_neg hj, if_neg (show ¬ v = (j : Int) by omega)]; split <;> rfl
theorem value_cut {n : Net} (hok : n.Ok) {f : List Int} (hf : IsFlow n f) (S : Int → Bool) (hs : S n.source = true) (ht : S n.sink = false) :
  netF n f n.source = sumN n.arcs.length fun k => (if S (at_ n.arcs (k : Int)).frm && !S (at_ n.arcs (k : Int)).dst then at_ f (k : Int) else 0) - (if S (at_ n.arcs (k : Int)).dst && !S (at_ n.arcs (k : Int)).frm then at_ f (k : Int) else 0) := by
 have hsrc := hok.src
 -- the sum of what goes out of the nodes of S
 have h1 : sumN n.nodes.toNat (fun v => if S (v : Int) then netF n f (v : Int) else 0) = netF n f n.source := by
  rw [Di n.nodes.toNat (h := fun j => if j = n.source.toNat then netF n f n.source else 0) fun j hj => ?_]
  ·exact sumN_at om _
  ·by_cases hj' : j = n.source.toNat
   ·subst hj'
    rw [if_pos rfl, show ((n.source.toNat : Nat) : Int) = n.source from by omega, hs]; simp
   ·rw [if_neg hj']
    by_cases hS : S (j : Int) = true
    ·rw [if_pos hS]
     refine hf.cons _ om om (fun e => hj' om) fun e => ?_
     rw [e, ht] at hS; cases hS
    ·rw [if_neg hS]
 rw [← h1]
 have h2 : sumN n.nodes.toNat (fun v => if S (v : Int) then netF n f (v : Int) else 0) =
   sumN n.nodes.toNat (fun v => sumN n.arcs.length fun k => (if S (v : Int) then (if (at_ n.arcs (k : Int)).frm = (v : Int) then at_ f (k : Int) else 0) else 0) - (if S (v : Int) then (if (at_ n.arcs (k : Int)).dst = (v : Int) then at_ f (k : Int) else 0) else 0)) :=
  Di _ fun v _ => by
   by_cases hS : S (v : Int) = true
   ·rw [if_pos hS]; unfold netF
    exact Di _ fun k _ => by rw [if_pos hS, if_pos hS]
   ·rw [if_neg hS]
    exact (sumN_eq_zero _ fun k _ => by rw [if_neg hS, if_neg hS]; rfl).symm
 rw [h2, sumN_swap]
 refine Di _ fun k hk => ?_
 have ha := arc_at hok hk
 rw [sumN_sub, sumN_ind ha.1.1 om, sumN_ind ha.2.1.1 om]
 cases S (at_ n.arcs (k : Int)).frm <;> cases S (at_ n.arcs (k : Int)).dst <;> simp
theorem value_le {n : Net} (hok : n.Ok) {f : List Int} (hf : IsFlow n f) (S : Int → Bool) (hs : S n.source = true) (ht : S n.sink = false) : netF n f n.source ≤ cutS n S := by
 rw [value_cut hok hf S hs ht]
 refine sumN_le _ fun k hk => ?_
 have hc := hf.cap k hk
 cases S (at_ n.arcs (k : Int)).frm <;> cases S (at_ n.arcs (k : Int)).dst <;> simp <;> omega
def Shut (n : Net) (f : List Int) (S : Int → Bool) : Prop := ∀ k : Nat, k < n.arcs.length →
 (S (at_ n.arcs (k : Int)).frm = true → at_ f (k : Int) < (at_ n.arcs (k : Int)).cap → S (at_ n.arcs (k : Int)).dst = true) ∧
 (S (at_ n.arcs (k : Int)).dst = true → 0 < at_ f (k : Int) → S (at_ n.arcs (k : Int)).frm = true)
theorem shut_value {n : Net} (hok : n.Ok) {f : List Int} (hf : IsFlow n f) {S : Int → Bool} (hs : S n.source = true) (ht : S n.sink = false) : netF n f n.source = cutS n S ↔ Shut n f S := by
 rw [value_cut hok hf S hs ht]
 have hle : ∀ k, k < n.arcs.length → ((if S (at_ n.arcs (k : Int)).frm && !S (at_ n.arcs (k : Int)).dst then at_ f (k : Int) else 0) - (if S (at_ n.arcs (k : Int)).dst && !S (at_ n.arcs (k : Int)).frm then at_ f (k : Int) else 0)) ≤ (if S (at_ n.arcs (k : Int)).frm && !S (at_ n.arcs (k : Int)).dst then (at_ n.arcs (k : Int)).cap else 0) := fun k hk => by
  have hc := hf.cap k hk
  cases S (at_ n.arcs (k : Int)).frm <;> cases S (at_ n.arcs (k : Int)).dst <;> simp <;> omega
 constructor
 ·intro h k hk
  have := sumN_eq_terms _ hle h k hk
  have hc := hf.cap k hk
  revert this
  cases h1 : S (at_ n.arcs (k : Int)).frm <;> cases h2 : S (at_ n.arcs (k : Int)).dst <;> simp <;> omega
 ·intro h
  refine Di _ fun k hk => ?_
  have hc := hf.cap k hk
  have := h k hk
  revert this
  cases h1 : S (at_ n.arcs (k : Int)).frm <;> cases h2 : S (at_ n.arcs (k : Int)).dst <;> simp <;> omega
end Go.Sl
/- Sending along a way: the plain law. No Go. -/
namespace Go.Sl
section
variable {n : Net} {f out : List Int} {rk : Int → Nat}
theorem netF_set {k : Nat} (hk : k < n.arcs.length) {f1 : List Int} (hl : f1.length = n.arcs.length) (c v : Int) :
  netF n (f1.set k c) v = netF n f1 v + (if (at_ n.arcs (k : Int)).frm = v then c - at_ f1 (k : Int) else 0) - (if (at_ n.arcs (k : Int)).dst = v then c - at_ f1 (k : Int) else 0) := by
 have hat : ∀ j : Nat, at_ (f1.set k c) (j : Int) = if k = j then c else at_ f1 (j : Int) := fun j => at_setn f1 k j c om
 unfold netF
 rw [sumN_upd hk (g := fun k => (if (at_ n.arcs (k : Int)).frm = v then at_ f1 (k : Int) else 0) - (if (at_ n.arcs (k : Int)).dst = v then at_ f1 (k : Int) else 0)) (fun j hj hjk => by simp only [hat j, if_neg (fun e => hjk e.symm : ¬ k = j)])]
 simp only [hat k, if_true]
 split <;> split <;> omega
theorem at_all {p : Int → Prop} {i : Int} {m : Nat} (h : ∀ k : Nat, k < m → p (k : Int)) (h0 : 0 ≤ i) (hi : i < m) : p i := by
 have := h i.toNat om
 rwa [show ((i.toNat : Nat) : Int) = i from by omega] at this
theorem arc_ok (hok : n.Ok) {i : Int} (h0 : 0 ≤ i) (hi : i < n.arcs.length) : (0 ≤ (at_ n.arcs i).frm ∧ (at_ n.arcs i).frm < n.nodes) ∧ (0 ≤ (at_ n.arcs i).dst ∧ (at_ n.arcs i).dst < n.nodes) ∧ (at_ n.arcs i).frm ≠ (at_ n.arcs i).dst ∧ 0 ≤ (at_ n.arcs i).cap ∧ (at_ n.arcs i).cap ≤ 1099511627776 := hok.arc _ (Ch h0 hi)
theorem cap_ok (hf : ∀ k : Nat, k < n.arcs.length → 0 ≤ at_ f (k : Int) ∧ at_ f (k : Int) ≤ (at_ n.arcs (k : Int)).cap) {i : Int} (h0 : 0 ≤ i) (hi : i < n.arcs.length) : 0 ≤ at_ f i ∧ at_ f i ≤ (at_ n.arcs i).cap := at_all (p := fun i => 0 ≤ at_ f i ∧ at_ f i ≤ (at_ n.arcs i).cap) hf h0 hi
end
end Go.Sl
/- The least and the greatest side of a cut: the plain law. No Go. -/
namespace Go.Sl
def sideL (N : Nat) (R : Int → Bool) : List Int := ((List.range N).map fun k => ((k : Nat) : Int)).filter R
theorem sideL_succ (N : Nat) (R : Int → Bool) : sideL (N + 1) R = sideL N R ++ if R (N : Int) then [(N : Int)] else [] := by
 unfold sideL
 rw [List.range_succ, List.map_append, List.filter_append]
 congr 1
 by_cases h : R (N : Int) <;> simp [h]
theorem sideL_yes {N : Nat} {R : Int → Bool} (h : R (N : Int) = true) : sideL (N + 1) R = sideL N R ++ [(N : Int)] := by rw [sideL_succ, if_pos h]
theorem sideL_no {N : Nat} {R : Int → Bool} (h : R (N : Int) = false) : sideL (N + 1) R = sideL N R := by rw [sideL_succ, h]; simp
theorem sideL_len (N : Nat) (R : Int → Bool) : (sideL N R).length ≤ N := by
 have := List.length_filter_le R ((List.range N).map fun k => ((k : Nat) : Int))
 simpa [sideL] using this
theorem mem_sideL {N : Nat} {R : Int → Bool} {z : Int} : z ∈ sideL N R ↔ (0 ≤ z ∧ z < N) ∧ R z = true := by
 unfold sideL
 rw [List.mem_filter, List.mem_map]
 constructor
 ·rintro ⟨⟨k, hk, rfl⟩, h⟩
  exact ⟨⟨by omega, by have := List.mem_range.1 hk; omega⟩, h⟩
 ·rintro ⟨⟨h0, h1⟩, h⟩
  exact ⟨⟨z.toNat, List.mem_range.2 om, by omega⟩, h⟩
structure Great (n : Net) (f : List Int) (T : Int → Bool) : Prop where
 src : T n.source = true
 snk : T n.sink = false
 shut : Shut n f T
 great : ∀ S : Int → Bool, Shut n f S → S n.sink = false → ∀ z, 0 ≤ z → z < n.nodes → S z = true → T z = true
section
variable {n : Net} {f g : List Int} {R R' : Int → Bool}
theorem Great.value (hok : n.Ok) (hf : IsFlow n f) (h : Great n f R) : netF n f n.source = cutS n R := (shut_value hok hf h.src h.snk).2 h.shut
end
theorem cut_nonneg_le {n : Net} (hok : n.Ok) (S : Int → Bool) : 0 ≤ cutS n S ∧ cutS n S ≤ 18014398509481984 := by
 have h : ∀ m : Nat, m ≤ n.arcs.length → 0 ≤ sumN m (fun k => if S (at_ n.arcs (k : Int)).frm && !S (at_ n.arcs (k : Int)).dst then (at_ n.arcs (k : Int)).cap else 0) ∧ sumN m (fun k => if S (at_ n.arcs (k : Int)).frm && !S (at_ n.arcs (k : Int)).dst then (at_ n.arcs (k : Int)).cap else 0) ≤ (m : Int) * 1099511627776 := fun m => by
  induction m with
  | zero => intro _; simp [sumN]
  | succ m ih =>
   intro hm
   have := ih om
   have := arc_at hok (k := m) om
   simp only [sumN]
   split <;> omega
 have := h n.arcs.length (Nat.le_refl _)
 have := hok.lim
 unfold cutS
 omega
theorem flow_zero (n : Net) (hok : n.Ok) : IsFlow n (List.replicate n.arcs.length (0 : Int)) ∧ netF n (List.replicate n.arcs.length (0 : Int)) n.source = 0 := by
 have h0 : ∀ k : Nat, k < n.arcs.length → at_ (List.replicate n.arcs.length (0 : Int)) (k : Int) = 0 := fun k hk => at_rep _ _ _ om om
 have hn : ∀ v, netF n (List.replicate n.arcs.length (0 : Int)) v = 0 := fun v => sumN_eq_zero _ fun k hk => by rw [h0 k hk]; simp
 exact ⟨⟨by simp, fun k hk => by rw [h0 k hk]; have := arc_at hok hk; omega, fun v _ _ _ _ => hn v⟩, hn _⟩
end Go.Sl
/- Searching back from the sink: the plain law. No Go. -/
namespace Go.Sl
section
variable {n : Net} {f back : List Int} {i k1 k2 : Nat}
end
end Go.Sl
/- What a check of a flow accepts: the plain law. No Go. -/
namespace Go.Sl
section
variable {n : Net} {f side : List Int} {val : Int}
end
end Go.Sl
/- Networks with one arc more, and turned round; sets between the least and the greatest side: the plain law. No Go. -/
namespace Go.Sl
section
variable {n m : Net} {f g s t : List Int} {v w : Int}
end
end Go.Sl
namespace Go.Sl
open Go.Proofs
set_option maxRecDepth 4000
theorem intLin : LinO (fun a b : Int => a < b) := ⟨fun a h => by omega, fun a b c h1 h2 => by omega, fun a b => by omega⟩
theorem putL_eq (x : Int) : ∀ l, putL l x = insB (fun a b : Int => a < b) l x
 | [] => rfl
 | y :: ys => by simp only [putL, insB, putL_eq x ys]
theorem ofL_eq (l : List Int) : ofL l = sortB (fun a b : Int => a < b) l := by
 unfold ofL sortB
 congr 1
 funext acc x
 exact putL_eq x acc
theorem ofL_asc (l : List Int) : (ofL l).Pairwise (fun a b : Int => a < b) := by rw [ofL_eq]; exact intLin.sortB l
theorem ValidP_iff {l : List Int} {N : Int} : ValidP l N ↔ (∀ x ∈ l, 0 ≤ x ∧ x < N) ∧ l.Pairwise (fun a b : Int => a < b) := by
 constructor
 ·intro h
  refine ⟨fun x hx => ValidP_mem h hx, pairwise_next intLin.tr fun i hi => ?_⟩
  have := (h (i + 1) hi).2 om
  rwa [show ((i + 1 : Nat) : Int) - 1 = (i : Int) from by omega] at this
 ·rintro ⟨h1, h2⟩ j hj
  refine ⟨h1 _ (Ch om om), fun h0 => ?_⟩
  have := (pairwise_at l).1 h2 (j - 1) j om hj
  rwa [show ((j - 1 : Nat) : Int) = (j : Int) - 1 from by omega] at this
end Go.Sl
/- Cuts of graphs: how many edges a set separates; least cuts; which nodes few edges cannot separate. No Go. No conditions. -/
namespace Go.Sl
theorem sumN_list {α : Type} [Inhabited α] (g : α → Int) (l : List α) : sumN l.length (fun k => g (at_ l (k : Int))) = (l.map g).sum := by
 have key : ∀ m, m ≤ l.length → sumN m (fun k => g (at_ l (k : Int))) = ((l.take m).map g).sum := fun m => by
  induction m with
  | zero => intro _; simp [sumN]
  | succ m ih =>
   intro hm
   rw [Cx l m om, List.map_append, List.sum_append, ← ih om]
   simp [sumN]
 have := key l.length (Nat.le_refl _)
 rwa [List.take_length] at this
end Go.Sl
