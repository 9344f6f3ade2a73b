/- A part of the proofs of statements of this seat: contracts of functions, and the plain laws that they lean on. No conditions. -/
import Derived.Test.YtbimaodbcjjbfaaLib
import Derived.RangeFuncRecord
import Derived.RangeFuncCalls
import Derived.TacticsIn
/- Ranges over a function: the loop's record, rounds, the mark among the deferred calls. No conditions. -/
namespace Go.Sl
open Go.RowKit (Below)
set_option linter.unusedVariables false
set_option linter.unusedSimpArgs false
/-- The record of a loop over a function. -/
def recI (l : Nat) (r : Loop) : Item where
  fp k := k = l
  ok w := w.heap[l]? = some (.loop r)
  loc w w' h hw := (h l rfl).trans hw
/-- The block for the deferred calls of the rounds: there are none. -/
def dfrI (D : Nat) : Item where
  fp k := k = D
  ok w := w.heap[D]? = some (.deferred (some []))
  loc w w' h hw := (h D rfl).trans hw
theorem Sep.putRec {κ : Ctx} {w : World} {l : Nat} {r r' : Loop} {I : List Item} (h : Sep κ w (recI l r :: I)) : Sep κ (w.putObj l (.loop r')) (recI l r' :: I) := by
  have hl := (h.ok _ List.mem_cons_self).1
  have hlt : l < w.heap.size := (Array.getElem?_eq_some_iff.1 hl).1
  exact h.upd (.head _ _ _) rfl ⟨rfl, Nat.le_refl _⟩ rfl (by simp) (fun k _ hne => World.putObj_heap_other hne) (World.putObj_heap_same hlt) fun k hk => .inl hk
/-- s[l : l+e : l+e] -/
theorem Runs.lohi3r {P : Program} {κ : Ctx} {N : Fr} {L : Env} {J : List Item} {d : Option Tmp} {ty : TypeId} {ps : String} {af : Array Edge} {gd : Option (Nat × Bool)} {x y y' y'' : Operand} {T E sz by' n c l e : Nat} {ag : Bool} {z : List Value} {ad : Option Addr} {m m' : Int} (ht : P.underlying T = some (.slice E)) (hE : tyF P E = some (sz, ag, by', z))
    (hx : evalO L x = some (.slice ad n c)) (hy : evalO L y = some (I64 m)) (hy' : evalO L y' = some (I64 m')) (hy'' : evalO L y'' = some (I64 m')) (hm : m = (l : Int)) (hm' : m' = ((l + e : Nat) : Int)) (h1 : 0 < e) (hc : l + e ≤ c) :
    Runs P κ N ⟨d, .slice T x (some y) (some y') (some y''), ty, ps, af, gd⟩ L J (.slice (adrop ad c l sz) e e) := fun a w ha hs => by
  subst hm hm'
  have i1 : (0 : Int) ≤ ((l + e : Nat) : Int) := by omega
  have i2 : ((l + e : Nat) : Int) ≤ (c : Int) := by omega
  have i3 : (l : Int) ≤ ((l + e : Nat) : Int) := by omega
  have i4 : (0 : Int) ≤ (l : Int) := by omega
  have key : (Instr.sliceBounds true n c (some (a.eval y)) (some (a.eval y')) (some (a.eval y''))).run P w = .ok (l, l + e, l + e) w := by
    generalize hq : l + e = q at *
    simp [Instr.sliceBounds, ha.eval hy, ha.eval hy', ha.eval hy'', Instr.sliceBound, asIntOf, i1, i2, i3, i4, show q ≤ c by omega, show l ≤ q by omega]
  have hne : ¬ l + e = l := by omega
  have hne2 : ¬ c = l := by omega
  have hne3 : ¬ e = 0 := by omega
  simp [execOp, Instr.sliceAt, Instr.slice, run_underlying ht, ha.eval hx, key, run_sizeOf hE, hne, hne2, hne3, adrop]
section
variable {P : Program} {κ : Ctx} {N : Fr} {Q : Exit → Act → World → Prop} {L : Env} {I J : List Item} {ops : Array Oper}
/-- Code of a round of loop l. -/
def WR (P : Program) (κ : Ctx) (N : Fr) (l m : Nat) (c : Code) (Q : Exit → Act → World → Prop) (L : Env) (I : List Item) : Prop := ∀ a w, Ag N a L → Sep κ w I → c.wpIn (Fence.wide.inRound l) m P Q a w
variable {l m : Nat}
theorem WR.seq {x y : Code} (h : WR P κ N l m x (Exit.then (y.wpIn (Fence.wide.inRound l) m P Q) Q) L I) : WR P κ N l m (.seq x y) Q L I := fun a w ha hs => wpIn_seq (h a w ha hs)
theorem WR.block {id : Nat} {c : Code} (h : WR P κ N l m c (Exit.inBlock id Q) L I) : WR P κ N l m (.block id c) Q L I := fun a w ha hs => wpIn_block (h a w ha hs)
theorem WR.sub {c : Code} {L' : Env} (hf : Sub L L') (h : WR P κ N l m c Q L' I) : WR P κ N l m c Q L I := fun a w ha hs => h a w (ha.sub hf) hs
theorem WR.fit {c : Code} (hf : Fit κ I J) (h : WR P κ N l m c Q L J) : WR P κ N l m c Q L I := fun a w ha hs => h a w ha (hf w hs)
theorem V.thenR {y : Code} (h : WR P κ N l m y Q L I) : V κ N (Exit.then (y.wpIn (Fence.wide.inRound l) m P Q) Q) .normal L I := h
theorem upon_round {o : Oper} {a : Act} {next next' : Act → World → Prop} (hq : ¬ LetsOut Q) (hn : ∀ a w, next a w → next' a w) : ∀ res : Result Next, o.upon P a next Q res → o.uponIn (Fence.wide.inRound l) m P a next' Q res
  | .ok (.value v) w', h => hn _ _ h
  | .ok .skip w', h => hn _ _ h
  | .ok (.defer d) w', h => hn _ _ h
  | .ok (.enter f args) w', h => ⟨fun hd => by simp [Fence.wide] at hd, CallsIn.inRound l ((callsIn_wide.2 h).mono fun e w'' he => by
      cases e with
      | returned v => exact hn _ _ he
      | panicked c => exact he
      | outgrown => exact he)⟩
  | .ok (.row row args) w', h => ⟨fun hd => by simp [Fence.wide] at hd, fun c cs _ => by
      obtain ⟨v, w'', hr, hs⟩ := h c cs
      exact ⟨v, w'', hn _ _ hr, stepsIn_wide.2 hs⟩⟩
  | .ok (.round _ _ _ _ _) _, h => h.elim
  | .halt e w', h => by cases e <;> first | exact h | exact h.elim
theorem list_round (hq : ¬ LetsOut Q) : ∀ (rest : List Oper), (∀ o ∈ rest, ∀ c, o.op ≠ .defer c) → ∀ a w, wpList P ops Q rest a w → wpListIn (Fence.wide.inRound l) m P ops Q rest a w
  | [], _, a, w, h => h
  | o :: rest, hnd, a, w, h => by
    unfold wpList at h
    unfold wpListIn
    by_cases hw : Region.wanted o (yielded ops a.tmps) = true
    · rw [if_pos hw] at h ⊢
      rcases h with h | h
      · refine ⟨fun _ _ => trivial, ?_⟩
        rw [Fence.inRound_round, Oper.semAt_some _ _ _ (hnd o List.mem_cons_self)]
        exact upon_round hq (fun a' w' h' => list_round hq rest (fun o ho => hnd o (List.mem_cons_of_mem _ ho)) a' w' h') _ h
      · exact absurd h.2 hq
    · rw [if_neg hw] at h ⊢
      exact ⟨fun _ _ => trivial, list_round hq rest (fun o ho => hnd o (List.mem_cons_of_mem _ ho)) _ _ h⟩
def noDefer : List Oper → Bool
  | [] => true
  | o :: l => (match o.op with | .defer _ => false | _ => true) && noDefer l
theorem noDefer_all : ∀ {l : List Oper}, noDefer l = true → ∀ o ∈ l, ∀ c, o.op ≠ .defer c
  | [], _, o, ho, _ => by cases ho
  | x :: l, h, o, ho, c => by
    unfold noDefer at h
    rw [Bool.and_eq_true] at h
    rcases List.mem_cons.1 ho with rfl | ho
    · intro e
      rw [e] at h; cases h.1
    · exact noDefer_all h.2 o ho c
/-- A region of a round is walked as everywhere. -/
theorem WR.region {id : Nat} {ls : List Oper} (hq : ∀ a w, ¬ Q .outgrown a w) (hd : noDefer ls = true) (h : G P κ N ls.toArray Q ls L I) : WR P κ N l m (.region id ls.toArray false) Q L I :=
  fun a w ha hs => wpIn_region_lit (list_round (fun ⟨a, w, h⟩ => hq a w h) ls (noDefer_all hd) a w (h a w ha hs))
/-! One round. -/
/-- A call of yield with these arguments. -/
def YieldS (P : Program) (κ : Ctx) (l : Nat) (args : List Value) (I : List Item) (Post : List Item → Prop) : Prop := ∀ w, Sep κ w I → YieldAt Fence.wide 0 P l args.toArray w fun e w' => e = .returned (.bool true) ∧ ∃ J, Post J ∧ Sep κ w' J
theorem V.round {r : Loop} {Post : List Item → Prop} (J : List Item) (hf : Fit κ I (recI l { r with state := .busy } :: J)) (hp : r.state = .ready ∧ r.pending = none) (hP : Post (recI l r :: J)) : V κ N (roundPost P l fun e w' => e = .returned (.bool true) ∧ ∃ K, Post K ∧ Sep κ w' K) .normal L I := fun a w ha hs => by
  have hs' := hf w hs
  have hl := (hs'.ok _ List.mem_cons_self).1
  refine ⟨_, _, run_endRound none hl, rfl, ?_⟩
  have e : ({ ({ r with state := .busy } : Loop) with state := if (none : Option Code).isNone then .ready else .done, pending := none } : Loop) = r := by
    obtain ⟨h1, h2⟩ := hp
    cases r; simp_all
  rw [e]
  exact ⟨_, hP, hs'.putRec⟩
theorem YieldS.mk {r : Loop} {Post : List Item → Prop} {args : List Value} {L₁ : Env} (hps : args.length = r.params.size) (hrd : r.state = .ready ∧ r.pending = none) {body : Code} (hb : r.body = body)
    (hassign : ∀ (w : World) (K : Act → World → Prop), (∀ a₁, Ag N a₁ L₁ → K a₁ w) → r.assign.wpIn (Fence.wide.inRound l) 0 P (Exit.then K (fun _ _ _ => False)) { tmps := (r.params.zip args.toArray).foldl (fun t (p, v) => t.setIfInBounds p v) r.tmps, defers := [] } w)
    (hbody : WR P κ N l 0 body (roundPost P l fun e w' => e = .returned (.bool true) ∧ ∃ K, Post K ∧ Sep κ w' K) L₁ (recI l { r with state := .busy } :: I)) :
    YieldS P κ l args (recI l r :: I) Post := fun w hs => by
  have hl := (hs.ok _ List.mem_cons_self).1
  refine ⟨_, _, _, _, run_yield hl (by simpa using hps), roundIn_of_wpIn trivial ?_⟩
  refine hassign w _ fun a₁ ha => ⟨_, run_beginRound hl hrd.1, ?_⟩
  have h := hbody a₁ _ ha hs.putRec
  rw [← hb] at h
  exact h
theorem fold_one (tm : Array Value) (p : Tmp) (v : Value) : (#[p].zip [v].toArray).foldl (fun t (p, v) => t.setIfInBounds p v) tm = tm.setIfInBounds p v := by simp
/-- The loop's one variable, in a slot. -/
theorem assign_one {tm : Array Value} {v : Value} {d p id : Nat} {ty : TypeId} {ps : String} {af : Array Edge} (hta : Ag ⟨N.n, []⟩ { tmps := tm, defers := [] } L) (hp : Nat.blt p N.n = true) (hd : Nat.blt d N.n = true) (w : World) (K : Act → World → Prop)
    (hK : ∀ a₁, Ag ⟨N.n, []⟩ a₁ ((d, v) :: (p, v) :: L) → K a₁ w) :
    (Code.region id [⟨some d, .assign (.tmp p), ty, ps, af, none⟩].toArray false).wpIn (Fence.wide.inRound l) 0 P (Exit.then K (fun _ _ _ => False)) { tmps := tm.setIfInBounds p v, defers := [] } w := by
  have ha : Ag ⟨N.n, []⟩ { tmps := tm.setIfInBounds p v, defers := [] } ((p, v) :: L) := hta.put p hp v
  have he : ({ tmps := tm.setIfInBounds p v, defers := [] } : Act).eval (.tmp p) = v := ha.eval (by simp [evalO, look])
  refine wpIn_region_lit ?_
  unfold wpListIn
  rw [if_pos (by simp [Region.wanted])]
  refine ⟨fun _ _ => trivial, ?_⟩
  rw [Fence.inRound_round, Oper.semAt_some _ _ _ (fun c h => by cases h)]
  have hr : (execOp ({ tmps := tm.setIfInBounds p v, defers := [] } : Act).eval ⟨some d, .assign (.tmp p), ty, ps, af, none⟩).run P w = .ok (.value v) w := by
    simp [execOp, he]
  simp only [hr, Oper.uponIn]
  exact hK _ (ha.put d hd v)
/-! The iterator: its calls of yield. -/
def GY (P : Program) (κ : Ctx) (N : Fr) (ops : Array Oper) (Q : Exit → Act → World → Prop) (rest : List Oper) (L : Env) (I : List Item) : Prop := ∀ a w, Ag N a L → Sep κ w I → wpListIn Fence.wide 0 P ops Q rest a w
theorem W.regionI {id : Nat} {ls : List Oper} (h : GY P κ N ls.toArray Q ls L I) : W P κ N (.region id ls.toArray false) Q L I := fun a w ha hs => wpIn_wide.1 (wpIn_region_lit (n := 0) (h a w ha hs))
theorem GY.nil (h : V κ N Q .normal L I) : GY P κ N ops Q [] L I := fun a w ha hs => h a w ha hs
theorem GY.fit {rest : List Oper} (hf : Fit κ I J) (h : GY P κ N ops Q rest L J) : GY P κ N ops Q rest L I := fun a w ha hs => h a w ha (hf w hs)
theorem GY.read {o : Oper} {rest : List Oper} {d : Nat} {v : Value} (hw : Wanted N ops o L) (hd : o.dst = some d) (hN : Nat.blt d N.n = true) (hr : Runs P κ N o L I v) (h : GY P κ N ops Q rest ((d, v) :: L) I) : GY P κ N ops Q (o :: rest) L I :=
  fun a w ha hs => by
    unfold wpListIn
    rw [if_pos (hw a ha)]
    refine ⟨fun _ _ => trivial, ?_⟩
    simp only [Fence.wide_round, Oper.semAt_none, hr a w ha hs, Oper.uponIn, hd]
    exact h _ w (ha.put d hN v) hs
theorem GY.yield {rest : List Oper} {Post : List Item → Prop} {l dd : Nat} {x : Operand} {xs : List Operand} {vs : List Value} {as : Array TypeId} {ty : TypeId} {ps : String} {af : Array Edge} {gd : Option (Nat × Bool)}
    (hw : Wanted N ops ⟨some dd, .call { callee := .value x, args := xs.toArray, argTypes := as }, ty, ps, af, gd⟩ L) (hfv : evalO L x = some (.func (.yield l) #[] #[])) (hx : evalL L xs = some vs) (hN : Nat.blt dd N.n = true) (hy : YieldS P κ l vs I Post)
    (h : ∀ J, Post J → GY P κ N ops Q rest ((dd, .bool true) :: L) J) : GY P κ N ops Q (⟨some dd, .call { callee := .value x, args := xs.toArray, argTypes := as }, ty, ps, af, gd⟩ :: rest) L I := fun a w ha hs => by
  obtain ⟨fn, tmps, assign, body, hyr, hR⟩ := hy w hs
  have he : (execOp a.eval ⟨some dd, .call { callee := .value x, args := xs.toArray, argTypes := as }, ty, ps, af, gd⟩).run P w = .ok (.round l fn tmps assign body) w := by
    simp only [execOp, resolve, ha.eval hfv, Deferred.ofValue, invoke, Sem.run_bind, Sem.run_pure, Result.andThen_ok, List.map_toArray, ha.evalL hx]
    simpa using hyr
  unfold wpListIn
  rw [if_pos (hw a ha)]
  refine ⟨fun _ _ => trivial, ?_⟩
  simp only [Fence.wide_round, Oper.semAt_none, he, Oper.uponIn]
  refine ⟨fun hd => by simp [Fence.wide] at hd, hR.mono fun e w' ⟨h1, J, hP, h2⟩ => ?_⟩
  subst h1
  exact h J hP _ w' (ha.put dd hN _) h2
/-! The statement. -/
def markD (D : Nat) : Deferred := { target := .collected D, args := #[] }
theorem W.rangeFn {g : Operand} {ps : Array Tmp} {assign body : Code} {gf : FuncId} {lb : List Value} (hg : evalO L g = some (.func (.func gf) #[] lb.toArray)) (hc : callable P gf = true)
    (h : ∀ (D l : Nat) (r : Loop), (r.state = .ready ∧ r.pending = none) → r.params = ps → r.assign = assign → r.body = body → Ag ⟨N.n, []⟩ { tmps := r.tmps, defers := [] } L →
      CallS P κ gf (.func (.yield l) #[] #[] :: lb) (recI l r :: dfrI D :: I) fun v K => ∃ J, K = recI l r :: dfrI D :: J ∧ V κ ⟨N.n, markD D :: N.ds⟩ Q .normal L (dfrI D :: J)) :
    W P κ N (.rangeFunc g ps assign body) Q L I := fun a w ha hs => by
  refine (wpIn_wide (n := 0)).1 (wpIn_rangeFunc ?_)
  intro fn _
  obtain ⟨r, hr⟩ : ∃ r : Loop, r = { state := .ready, pending := none, fn, tmps := a.tmps, params := ps, assign, body, defers := w.heap.size } := ⟨_, rfl⟩
  obtain ⟨W1, hW1⟩ : ∃ W1, (w.alloc (.deferred (some []))).alloc (.loop r) = W1 := ⟨_, rfl⟩
  have hD1 : (w.alloc (.deferred (some []))).heap[w.heap.size]? = some (.deferred (some [])) := World.alloc_heap_new w _
  have s1 : Sep κ (w.alloc (.deferred (some []))) (dfrI w.heap.size :: I) := hs.new (hs.alloc _) hD1 fun k hk => by obtain rfl : k = _ := hk; exact ⟨Nat.le_refl _, by simp⟩
  have hL1 : W1.heap[w.heap.size + 1]? = some (.loop r) := by
    rw [← hW1]; have := World.alloc_heap_new (w.alloc (.deferred (some []))) (.loop r); rwa [World.size_alloc] at this
  have s2 : Sep κ W1 (recI (w.heap.size + 1) r :: dfrI w.heap.size :: I) := by
    rw [← hW1]
    exact s1.new (s1.alloc _) (by rw [hW1]; exact hL1) fun k hk => by obtain rfl : k = _ := hk; exact ⟨by simp, by simp⟩
  have hcall := h w.heap.size (w.heap.size + 1) r (by rw [hr]; exact ⟨rfl, rfl⟩) (by rw [hr]) (by rw [hr]) (by rw [hr]) ⟨rfl, by rw [hr]; exact ha.size, by rw [hr]; exact ha.get⟩ W1 s2
  refine ⟨w.heap.size + 1, [markD w.heap.size], W1, { target := .fn (.func gf) lb.toArray, args := #[.func (.yield (w.heap.size + 1)) #[] #[]] }, W1, gf, #[.func (.yield (w.heap.size + 1)) #[] #[]] ++ lb.toArray, W1, ?_, ?_, fun _ _ => trivial, ?_, fun hd => by simp [Fence.wide] at hd, ?_⟩
  · rw [← hW1, hr]; exact run_enterLoop_outer _ _ _ _ _
  · simp only [resolve, ha.eval hg]
    simp [go_sem]
  · simp [invoke, go_sem, run_callFunc hc]
  · refine callsIn_wide.2 ?_
    have e1 : (#[.func (.yield (w.heap.size + 1)) #[] #[]] ++ lb.toArray : Array Value) = (Value.func (.yield (w.heap.size + 1)) #[] #[] :: lb).toArray := by simp
    rw [e1]
    refine hcall.mono fun e w' ⟨v, K, he, ⟨J, hK, hV⟩, hs'⟩ => ?_
    subst he hK
    have hl := (hs'.ok _ List.mem_cons_self).1
    have hst : r.state ≠ .busy := by rw [hr]; exact fun h => by cases h
    refine ⟨_, _, run_endLoop hl hst, ?_⟩
    have hp : r.pending = none := by rw [hr]
    rw [hp]
    exact hV _ _ ⟨by show [markD w.heap.size] ++ a.defers = _; rw [ha.defers]; rfl, ha.size, ha.get⟩ hs'.putRec.tail
/-! Leaving a function that holds such a loop. -/
/-- What is asked where the body ends: it returns. -/
def bodyPostR (P : Program) (fn : Func) (R : Ending → World → Prop) : Exit → Act → World → Prop
  | .normal, a, w | .ret, a, w => LeavesInM Fence.wide 0 P fn a.tmps R a.defers .returning w
  | _, _, _ => False
theorem CallS.enterM {f : FuncId} {fn : Func} {c : Code} {n : Nat} {args : List Value} {Post : Value → List Item → Prop} (hf : P.funcs[f]? = some fn) (hb : fn.body = some c) (hN : fn.ntmps = n) (hl : Nat.ble args.length n = true) (hL : argEnv 0 args = L)
    (h : W P κ ⟨n, []⟩ c (bodyPostR P fn (RetR κ Post)) L I) : CallS P κ f args I Post := fun w hs => by
  refine (callsIn_wide (n := 0)).1 (callsIn_of_wp_marks hf hb trivial ?_)
  rw [hN]
  subst hL
  refine wpIn_mono (wpIn_wide.2 (h _ w (Ag.start args n (by simpa using hl)) hs)) fun e a w hq => ?_
  cases e <;> first | exact hq | exact False.elim hq
theorem V.leave {n D : Nat} {fn : Func} {R : Ending → World → Prop} (h : V κ ⟨n, []⟩ (bodyPost P fn R) .ret L I) : V κ ⟨n, [markD D]⟩ (bodyPostR P fn R) .ret L (dfrI D :: I) := fun a w ha hs => by
  have hD := (hs.ok _ List.mem_cons_self).1
  have hlt : D < w.heap.size := (Array.getElem?_eq_some_iff.1 hD).1
  have hs' : Sep κ (w.putObj D (.deferred none)) I := hs.tail.frame rfl ⟨rfl, Nat.le_refl _⟩ rfl (by simp) fun x hx k hk => World.putObj_heap_other fun e => (List.pairwise_cons.1 hs.pw).1 x hx D rfl (e ▸ hk)
  obtain ⟨_, v, hr, hR⟩ := h { a with defers := [] } _ ⟨rfl, ha.size, ha.get⟩ hs'
  show LeavesInM _ _ _ _ _ _ a.defers _ _
  rw [ha.defers]
  exact ⟨by simp, .inl ⟨D, _, rfl, run_takeDeferred hD, v, hr, hR⟩⟩
end
end Go.Sl
