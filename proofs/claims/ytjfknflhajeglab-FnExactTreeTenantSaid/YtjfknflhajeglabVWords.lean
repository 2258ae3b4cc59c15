/- Words of this session's: a call of a function value by what is told of it. No condition beyond those that stand in each line. -/
import Derived.Test.YtjfknflhajeglabWWords
import Derived.Test.YtjfknflhajeglabWLast
import Derived.Test.YtjfknflhajeglabWMore
import Derived.Test.YtjfknflhajeglabWApart
import Derived.Test.YtjfknflhajeglabWKept
import Derived.Test.YtjfknflhajeglabWTab
import Derived.Deep.RegionLaw
import Derived.Laws.IdiomCopy
namespace Go.Proofs.YtjfknflhajeglabV
open Go.RowKit Go.Proofs.YtjfknflhajeglabW.PrintWords Go.Proofs.YtjfknflhajeglabW.PrintLast Go.Proofs.YtjfknflhajeglabW.PrintMore
/-- The element at a place of an array of three ints. -/
def ar3 (a b c i : Int) : Int := if i = 0 then a else if i = 1 then b else c
/-- The world gets a letter. -/
theorem relet_ {C F : World → Prop} {W : World} (hF : F W) (h : ∀ w', F w' → C w') : C W := h W hF
/-- Stores into the cells of a block, from a place on. -/
def putN (w : World) (g o : Nat) : List Value → World
  | [] => w
  | v :: vs => putN (w.setCell ⟨g, o, none⟩ v) g (o + 1) vs
theorem putN_ind {C : World → Prop} {g : Nat} (step : ∀ w o v, C w → C (w.setCell ⟨g, o, none⟩ v)) : ∀ (vs : List Value) (w : World) (o : Nat), C w → C (putN w g o vs)
  | [], _, _, h => h
  | v :: vs, w, o, h => putN_ind step vs _ _ (step w o v h)
theorem csN_ {w : World} {a : Addr} {g o : Nat} {vs : List Value} {v : Value} (hp : a.block ≠ g) (h : w.cell? a = some v) : (putN w g o vs).cell? a = some v := putN_ind (C := fun w => w.cell? a = some v) (fun _ _ u h => (cell_far (p := ⟨g, _, none⟩) hp u).trans h) vs w o h
theorem farN_ {w : World} {g g' o : Nat} {vs : List Value} {t : TypeId} {cs : Array Value} (hp : g ≠ g') (h : w.heap[g]? = some (.cells cs t (0, 0))) : (putN w g' o vs).heap[g]? = some (.cells cs t (0, 0)) := putN_ind (C := fun w => w.heap[g]? = some (.cells cs t (0, 0))) (fun _ _ u h => blk_far h hp u) vs w o h
theorem putN_at {g : Nat} {t : TypeId} : ∀ (vs pre cs : List Value) (w : World), cs.length = vs.length → w.heap[g]? = some (.cells (pre ++ cs).toArray t (0, 0)) → (putN w g pre.length vs).heap[g]? = some (.cells (pre ++ vs).toArray t (0, 0))
  | [], pre, [], w, _, h => h
  | v :: vs, pre, c :: cs, w, e, h => by
    have h1 := blk_set h pre.length v
    have e1 : (pre ++ c :: cs).toArray.setIfInBounds pre.length v = ((pre ++ [v]) ++ cs).toArray := by simp
    rw [e1] at h1
    have h2 := putN_at vs (pre ++ [v]) cs (w.setCell ⟨g, pre.length, none⟩ v) (by simpa using e) h1
    simp only [List.length_append, List.length_cons, List.length_nil, Nat.zero_add, List.append_assoc, List.cons_append, List.nil_append] at h2
    exact h2
theorem putN_all {w : World} {g : Nat} {t : TypeId} {cs : Array Value} {vs : List Value} (h : w.heap[g]? = some (.cells cs t (0, 0))) (e : cs.size = vs.length := by rfl) : (putN w g 0 vs).heap[g]? = some (.cells vs.toArray t (0, 0)) := by
  have := putN_at vs [] cs.toList w (by simpa using e) (by simpa using h)
  simpa using this
theorem putN_allx {w : World} {g : Nat} {t : TypeId} {cs : Array Value} {vs : List Value} (h : w.heap[g]? = some (.cells cs t (0, 0))) (e : cs.size = vs.length) : (putN w g 0 vs).heap[g]? = some (.cells vs.toArray t (0, 0)) := putN_all h e
theorem belowN_ {w W : World} {g o : Nat} {vs : List Value} (h : Below w.heap.size w W) (hg : w.heap.size ≤ g) : Below w.heap.size w (putN W g o vs) := putN_ind (C := fun W => Below w.heap.size w W) (fun _ _ _ h => below_set h hg) vs W o h
section
variable {α : Type} {d : Kd α} {e base g o : Nat} {ok : Nat → Prop} {v : Value} {xs : List α} {w : World} {vs : List Value}
theorem fsN_ (h : d.S e w base (fun k => ok k ∧ k ≠ g) v xs) : d.S e (putN w g o vs) base (fun k => ok k ∧ k ≠ g) v xs := putN_ind (C := fun w => d.S e w base (fun k => ok k ∧ k ≠ g) v xs) (fun _ _ u h => Kd.S_far (p := ⟨g, _, none⟩) h (fun _ hk => hk.2) u) vs w o h
theorem frN_ (h : d.R e w base (fun k => ok k ∧ k ≠ g) v xs) : d.R e (putN w g o vs) base (fun k => ok k ∧ k ≠ g) v xs := putN_ind (C := fun w => d.R e w base (fun k => ok k ∧ k ≠ g) v xs) (fun _ _ u h => Kd.R_far (p := ⟨g, _, none⟩) h (fun _ hk => hk.2) u) vs w o h
end
/-- Which of n operations have run, as the bits of a number. -/
def bz (n m : Nat) : Array Bool := ((List.range n).map fun i => m.testBit i).toArray
section
variable {P : Program} {md : Region.Mode} {ops : Array Oper} {Q : Exit → Act → World → Prop} {S : World → Prop} {ds : List Nat} {i : Nat} {N : Option Tmp} {fuel : Nat} {l : Array Bool} {a : Act} {w : World}
/-- An operation that yields in every world. -/
theorem px_ (l' : Array Bool) (hc : anyB md ops l l' i = true) {oi : Oper} {v : Value} {a' : Act} (h : wpAnyLast P md ops Q S ds fuel l' a' w) (hi : ops[i]? = some oi := by rfl) (hN : oi.dst = N := by rfl)
    (hQ : ∀ c a w, Q (.panic c) (a.put oi.dst v) w → Q (.panic c) a w := by exact fun _ _ _ h => h) (hw : Region.wanted oi (yielded ops a.tmps) = true := by rfl) (hv : ∀ w', (execOp a.eval oi).run P w' = .ok (.value v) w' := by intro w'; go_simp; with_reducible rfl)
    (ha : a.put N v = a' := by simp only [Act.put, List.setIfInBounds_toArray, List.set_cons_zero, List.set_cons_succ, i64_w, i32_w]; rfl) : wpAnyLast P md ops Q S ds (fuel + 1) l a w := pure_ l' hi hN hc hQ (Or.inl ⟨hw, hv⟩) ha h
/-- An operation whose guard is not met. -/
theorem ox_ (l' : Array Bool) (hc : anyB md ops l l' i = true) {oi : Oper} {a' : Act} (h : wpAnyLast P md ops Q S ds fuel l' a' w) (hi : ops[i]? = some oi := by rfl) (hN : oi.dst = N := by rfl)
    (hQ : ∀ c a w, Q (.panic c) (a.put oi.dst undef) w → Q (.panic c) a w := by exact fun _ _ _ h => h) (hw : Region.wanted oi (yielded ops a.tmps) = false := by rfl)
    (ha : a.put N undef = a' := by simp only [Act.put, List.setIfInBounds_toArray, List.set_cons_zero, List.set_cons_succ, i64_w, i32_w]; rfl) : wpAnyLast P md ops Q S ds (fuel + 1) l a w := pure_ l' hi hN hc hQ (Or.inr ⟨hw, rfl⟩) ha h
/-- An operation that reads. -/
theorem tx_ (l' : Array Bool) {oi : Oper} (hi : ops[i]? = some oi) (hN : oi.dst = N) (hc : takeB md ops ds l l' i = true) (hS : S w) {v : Value} {a' : Act} (hv : ∀ w', S w' → (execOp a.eval oi).run P w' = .ok (.value v) w') (h : wpAnyLast P md ops Q S ds fuel l' a' w)
    (hQ : ∀ c a w, Q (.panic c) (a.put oi.dst v) w → Q (.panic c) a w := by exact fun _ _ _ h => h) (hw : Region.wanted oi (yielded ops a.tmps) = true := by rfl)
    (ha : a.put N v = a' := by simp only [Act.put, List.setIfInBounds_toArray, List.set_cons_zero, List.set_cons_succ, i64_w, i32_w]; rfl) : wpAnyLast P md ops Q S ds (fuel + 1) l a w := take_ l' hi hN hc hQ (Or.inl ⟨hw, hv⟩) hS ha h
theorem oa_ (i N n m : Nat) {T : Bool × List (List Nat × List Nat)} (hT : Aside0 (rtab md ops = T)) {oi : Oper}
    (h : ∀ K : Act → World → Prop, Shut (∀ a' w', S w' → (S w' → wpAnyLast P md ops Q S ds fuel (bz n m) a' w') → K a' w') → if Region.wanted oi (yielded ops a.tmps) = true then Oper.wp P oi a w K Q else K (a.put (some N) undef) w) (hi : ops[i]? = some oi := by rfl) (hN : oi.dst = some N := by rfl) (hc : (readyT T.2 l.toList == [i] && l.toList.set i true == (bz n m).toList) = true := by kernel_rfl) (hd : i ∉ ds := by decide) :
    wpAnyLast P md ops Q S ds (fuel + 1) l a w := one_ (bz n m) hi hN (one_of hT.out hc) hd h
theorem pb_ (i : Nat) {n m N : Nat} {T : Bool × List (List Nat × List Nat)} {oi : Oper} {v : Value} {a' : Act} (h : wpAnyLast P md ops Q S ds fuel (bz n (m + 2 ^ i)) a' w) (hT : Aside0 (rtab md ops = T) := by assumption) (hc : anyT T (bz n m).toList (bz n (m + 2 ^ i)).toList i = true := by kernel_rfl) (hi : ops[i]? = some oi := by rfl) (hN : oi.dst = some N := by rfl)
    (hQ : ∀ c a w, Q (.panic c) (a.put oi.dst v) w → Q (.panic c) a w := by exact fun _ _ _ h => h) (hw : Region.wanted oi (yielded ops a.tmps) = true := by rfl) (hv : ∀ w', (execOp a.eval oi).run P w' = .ok (.value v) w' := by intro w'; go_simp; with_reducible rfl)
    (ha : a.put (some N) v = a' := by simp only [Act.put, List.setIfInBounds_toArray, List.set_cons_zero, List.set_cons_succ, i64_w, i32_w]; rfl) : wpAnyLast P md ops Q S ds (fuel + 1) (bz n m) a w := px_ (bz n (m + 2 ^ i)) (any_of hT.out hc) h hi hN hQ hw hv ha
theorem ob_ (i : Nat) {n m N : Nat} {T : Bool × List (List Nat × List Nat)} {oi : Oper} {a' : Act} (h : wpAnyLast P md ops Q S ds fuel (bz n (m + 2 ^ i)) a' w) (hT : Aside0 (rtab md ops = T) := by assumption) (hc : anyT T (bz n m).toList (bz n (m + 2 ^ i)).toList i = true := by kernel_rfl) (hi : ops[i]? = some oi := by rfl) (hN : oi.dst = some N := by rfl)
    (hQ : ∀ c a w, Q (.panic c) (a.put oi.dst undef) w → Q (.panic c) a w := by exact fun _ _ _ h => h) (hw : Region.wanted oi (yielded ops a.tmps) = false := by rfl)
    (ha : a.put (some N) undef = a' := by simp only [Act.put, List.setIfInBounds_toArray, List.set_cons_zero, List.set_cons_succ, i64_w, i32_w]; rfl) : wpAnyLast P md ops Q S ds (fuel + 1) (bz n m) a w := ox_ (bz n (m + 2 ^ i)) (any_of hT.out hc) h hi hN hQ hw ha
theorem tb_ (i : Nat) {n m N : Nat} {T : Bool × List (List Nat × List Nat)} {B : List Nat} {oi : Oper} (hi : ops[i]? = some oi) (hN : oi.dst = some N) (hS : S w) {v : Value} {a' : Act} (hv : ∀ w', S w' → (execOp a.eval oi).run P w' = .ok (.value v) w') (h : wpAnyLast P md ops Q S ds fuel (bz n (m + 2 ^ i)) a' w) (hT : Aside0 (rtab md ops = T) := by assumption) (hB : Aside0 (waitsOk T.2 B = true) := by assumption) (hc : takeW T B ds (bz n m).toList (bz n (m + 2 ^ i)).toList i = true := by kernel_rfl)
    (hQ : ∀ c a w, Q (.panic c) (a.put oi.dst v) w → Q (.panic c) a w := by exact fun _ _ _ h => h) (hw : Region.wanted oi (yielded ops a.tmps) = true := by rfl)
    (ha : a.put (some N) v = a' := by simp only [Act.put, List.setIfInBounds_toArray, List.set_cons_zero, List.set_cons_succ, i64_w, i32_w]; rfl) : wpAnyLast P md ops Q S ds (fuel + 1) (bz n m) a w := tx_ (bz n (m + 2 ^ i)) hi hN (take_ofW hT.out hB.out hc) hS hv h hQ hw ha
theorem rc_ {w W : World} {p : Addr} {v : Value} (hb : Below w.heap.size w W) (h : w.cell? p = some v) : W.cell? p = some v := (hb.cell (World.block_lt_of_cell? w _ h)).trans h
/-- The frame behind an operation, written out. -/
theorem nx_ {v : Value} {a' : Act} (h : wpAnyLast P md ops Q S ds fuel l a' w) (ha : a.put N v = a' := by simp only [Act.put, List.setIfInBounds_toArray, List.set_cons_zero, List.set_cons_succ, i64_w, i32_w]; rfl) : wpAnyLast P md ops Q S ds fuel l (a.put N v) w := norm_ ha h
end
section
variable {P : Program} {ops : Array Oper} {rest : List Oper} {o : Oper} {a : Act} {Q : Exit → Act → World → Prop} {W : World}
/-- The operation calls the function value in this place. -/
theorem gate_calleeV {j : Tmp} {as : Array Operand} {ts : Array TypeId} (_ho : o.op = .call { callee := .value (.tmp j), args := as, argTypes := ts }) (h : wpList P ops Q (o :: rest) a W) : wpList P ops Q (o :: rest) a W := h
/-- A call of a function value in a plain region. -/
theorem goesVL_ {oi : Oper} {w : World} (N : Option Tmp) (hd : oi.dst = N) (hg : oi.guard = none) {f : FuncId} {fn : Func} {as : Array Operand} {ts : Array TypeId} {j : Operand} (hf : P.funcs[f]? = some fn) (hname : (fn.name == "runtime.NumGoroutine") = false) (hb : fn.body.isSome = true) (args : Array Value) {cp : Array Value}
    (hop : oi.op = .call { callee := .value j, args := as, argTypes := ts }) (hv : a.eval j = .func (.func f) #[] cp) (hargs : as.map a.eval = args)
    (h : Calls P f (args ++ cp) w fun e w' => ∃ v, e = .returned v ∧ wpList P ops Q rest (a.put N v) w') : wpList P ops Q (oi :: rest) a w := by
  refine wpList_plain hg fun K hK => ?_
  have he := enters_ hf hname hb (args ++ cp) w
  have hrun : (execOp a.eval oi).run P w = .ok (.enter f (args ++ cp)) w := by
    unfold execOp
    simp [hop, resolve, Deferred.ofValue, invoke, hv, hargs, he]
  unfold Oper.wp
  rw [hrun, Oper.upon_enter]
  refine h.mono fun e w'' hh => ?_
  obtain ⟨v, rfl, hk⟩ := hh
  subst hd
  exact hK _ _ hk
end
/-! What is held, at the world that stands. -/
theorem an_ {P Q : Prop} (h : P) (k : Q) : Aside0 P ∧ Q := ⟨⟨h⟩, k⟩
theorem pk_ {w w' : World} {g : Nat} {o : Obj} (h : w.heap[g]? = some o) (k : w.heap[g]? = some o → w'.heap[g]? = some o := by intro h; (with_reducible repeat (first | refine blk_drewN ?_ _ | refine blk_drew ?_ | refine blk_alloc ?_ _)); exact h) : w'.heap[g]? = some o := k h
theorem pB_ {B : Nat} {w0 w w' : World} (h : Below B w0 w) (k : Below B w0 w → Below B w0 w' := by intro h; repeat (first | (with_reducible first | exact h | apply below_alloc | apply pw_below_drewN | apply below_drew1 | refine below_set ?_ (Aside0.out (by assumption)) | refine belowN_ ?_ (Aside0.out (by assumption))) | exact h)) : Below B w0 w' := k h
section
variable {α : Type} {d : Kd α} {e base : Nat} {ok : Nat → Prop} {v : Value} {xs : List α} {w w' : World}
theorem pR_ (h : Kd.R d e w base ok v xs) (k : Kd.R d e w base ok v xs → Kd.R d e w' base ok v xs := by intro h; (with_reducible repeat (first | apply Kd.R_alloc | apply Kd.R_drewN | apply Kd.R_drew)); exact h) : Kd.R d e w' base ok v xs := k h
theorem pS_ (h : Kd.S d e w base ok v xs) (k : Kd.S d e w base ok v xs → Kd.S d e w' base ok v xs := by intro h; (with_reducible repeat (first | apply Kd.S_alloc | apply Kd.S_drewN | apply Kd.S_drew)); exact h) : Kd.S d e w' base ok v xs := k h
theorem pN_ (h : Kd.N d e w base ok v xs) (k : Kd.N d e w base ok v xs → Kd.N d e w' base ok v xs := by intro h; (with_reducible repeat (first | apply Kd.N_alloc | apply Kd.N_drewN | apply Kd.N_drew)); exact h) : Kd.N d e w' base ok v xs := k h
theorem pV_ (h : Kd.V d e w base ok v xs) (k : Kd.V d e w base ok v xs → Kd.V d e w' base ok v xs := by intro h; (with_reducible repeat (first | apply Kd.V_alloc | apply Kd.V_drewN | apply Kd.V_drew)); exact h) : Kd.V d e w' base ok v xs := k h
end
theorem cells1 {W : World} {g t : Nat} {v0 : Value} (h : W.heap[g]? = some (.cells #[v0] t (0, 0))) : W.cell? ⟨g, 0, none⟩ = some v0 ∧ W.frozen? ⟨g, 0, none⟩ = false := ⟨(blk_cell h 0).trans rfl, blk_frozen h 0⟩
theorem cells3 {W : World} {g t : Nat} {v0 v1 v2 : Value} (h : W.heap[g]? = some (.cells #[v0, v1, v2] t (0, 0))) : W.cell? ⟨g, 0, none⟩ = some v0 ∧ W.cell? ⟨g, 1, none⟩ = some v1 ∧ W.cell? ⟨g, 2, none⟩ = some v2 ∧ W.frozen? ⟨g, 0, none⟩ = false ∧ W.frozen? ⟨g, 1, none⟩ = false ∧ W.frozen? ⟨g, 2, none⟩ = false := ⟨(blk_cell h 0).trans rfl, (blk_cell h 1).trans rfl, (blk_cell h 2).trans rfl, blk_frozen h 0, blk_frozen h 1, blk_frozen h 2⟩
theorem cells5 {W : World} {g t : Nat} {v0 v1 v2 v3 v4 : Value} (h : W.heap[g]? = some (.cells #[v0, v1, v2, v3, v4] t (0, 0))) : W.cell? ⟨g, 0, none⟩ = some v0 ∧ W.cell? ⟨g, 1, none⟩ = some v1 ∧ W.cell? ⟨g, 2, none⟩ = some v2 ∧ W.cell? ⟨g, 3, none⟩ = some v3 ∧ W.cell? ⟨g, 4, none⟩ = some v4 ∧ W.frozen? ⟨g, 0, none⟩ = false ∧ W.frozen? ⟨g, 1, none⟩ = false ∧ W.frozen? ⟨g, 2, none⟩ = false ∧ W.frozen? ⟨g, 3, none⟩ = false ∧ W.frozen? ⟨g, 4, none⟩ = false := ⟨(blk_cell h 0).trans rfl, (blk_cell h 1).trans rfl, (blk_cell h 2).trans rfl, (blk_cell h 3).trans rfl, (blk_cell h 4).trans rfl, blk_frozen h 0, blk_frozen h 1, blk_frozen h 2, blk_frozen h 3, blk_frozen h 4⟩
theorem cells6 {W : World} {g t : Nat} {v0 v1 v2 v3 v4 v5 : Value} (h : W.heap[g]? = some (.cells #[v0, v1, v2, v3, v4, v5] t (0, 0))) : W.cell? ⟨g, 0, none⟩ = some v0 ∧ W.cell? ⟨g, 1, none⟩ = some v1 ∧ W.cell? ⟨g, 2, none⟩ = some v2 ∧ W.cell? ⟨g, 3, none⟩ = some v3 ∧ W.cell? ⟨g, 4, none⟩ = some v4 ∧ W.cell? ⟨g, 5, none⟩ = some v5 ∧ W.frozen? ⟨g, 0, none⟩ = false ∧ W.frozen? ⟨g, 1, none⟩ = false ∧ W.frozen? ⟨g, 2, none⟩ = false ∧ W.frozen? ⟨g, 3, none⟩ = false ∧ W.frozen? ⟨g, 4, none⟩ = false ∧ W.frozen? ⟨g, 5, none⟩ = false := ⟨(blk_cell h 0).trans rfl, (blk_cell h 1).trans rfl, (blk_cell h 2).trans rfl, (blk_cell h 3).trans rfl, (blk_cell h 4).trans rfl, (blk_cell h 5).trans rfl, blk_frozen h 0, blk_frozen h 1, blk_frozen h 2, blk_frozen h 3, blk_frozen h 4, blk_frozen h 5⟩
theorem sl_inj {A A' : Option Addr} {n n' c c' : Nat} (h : Value.slice A n c = .slice A' n' c') : A' = A ∧ c' = c := by
  injection h with h1 h2 h3
  exact ⟨h1.symm, h3.symm⟩
section
variable {α β : Type} {d : Kd α} {d' : Kd β} {e e' base base' g n : Nat} {ok ok' : Nat → Prop} {u v v0 v1 v2 : Value} {xs : List α} {ys : List β} {w w' W : World} {A : Option Addr}
theorem pC_ (h : d.C w A n xs) (k : d.C w A n xs → d.C w' A n xs := by intro h; repeat (first | exact h | (with_reducible refine Kd.C_alloc ?_ _) | (with_reducible refine Kd.C_drewN ?_ _) | (with_reducible refine Kd.C_drew ?_))) : d.C w' A n xs := k h
theorem fr_ (h : d.R e w base (fun k => ok k ∧ k ≠ g) v xs) (i : Nat) (u : Value) : d.R e (w.setCell ⟨g, i, none⟩ u) base (fun k => ok k ∧ k ≠ g) v xs := Kd.R_far (p := ⟨g, i, none⟩) h (fun _ hk => hk.2) u
theorem nw_ (h : d.R e w W.heap.size ok v xs) (hu : d'.R e' W base' ok' u ys) : d.R e w W.heap.size (fun k => ok k ∧ some k ≠ u.ownBlock) v xs := Kd.R_new' h (Kd.R_lt hu)
end
/-- 'k ≠ thLt N k' says k < N. -/
def thLt (N k : Nat) : Nat := if k < N then k + 1 else k
/-- 'k ≠ thGe N k' says N ≤ k. -/
def thGe (N k : Nat) : Nat := if N ≤ k then k + 1 else k
theorem thr_ex {w w2 : World} (_hb : Below w.heap.size w w2) : ∃ N, N = w.heap.size := ⟨_, rfl⟩
theorem thLt_S {α : Type} {d : Kd α} {e base N : Nat} {w : World} {ok : Nat → Prop} {v : Value} {xs : List α} (hN : N = w.heap.size) (h : Kd.S d e w base ok v xs) : Kd.S d e w base (fun k => ok k ∧ k ≠ thLt N k) v xs :=
  Kd.S_mono (Kd.S_bound h) (fun k hk => ⟨hk.1, by have := hk.2.2.1; unfold thLt; rw [if_pos (by omega)]; omega⟩)
theorem thLt_N {α : Type} {d : Kd α} {e base N : Nat} {w : World} {ok : Nat → Prop} {v : Value} {xs : List α} (hN : N = w.heap.size) (h : Kd.N d e w base ok v xs) : Kd.N d e w base (fun k => ok k ∧ k ≠ thLt N k) v xs :=
  Kd.N_mono (Kd.N_bound h) (fun k hk => ⟨hk.1, by have := hk.2; unfold thLt; rw [if_pos (by omega)]; omega⟩)
theorem thGe_S {α : Type} {d : Kd α} {e N : Nat} {w w2 : World} {ok : Nat → Prop} {v : Value} {xs : List α} (hN : N = w.heap.size) (h : Kd.S d e w2 w.heap.size ok v xs) : Kd.S d e w2 w.heap.size (fun k => ok k ∧ k ≠ thGe N k) v xs :=
  Kd.S_mono (Kd.S_bound h) (fun k hk => ⟨hk.1, by have := hk.2.1; unfold thGe; rw [if_pos (by omega)]; omega⟩)
theorem thr_no {N k : Nat} (h : k ≠ thLt N k) (h2 : k ≠ thGe N k) : False := by
  unfold thLt at h; unfold thGe at h2
  by_cases hk : k < N
  · rw [if_neg (by omega)] at h2; exact h2 rfl
  · rw [if_neg hk] at h; exact h rfl
theorem S_borrowK {α : Type} {d : Kd α} {e base n cap : Nat} {W : World} {ok : Nat → Prop} {xs : List α} {ad : Addr} (h : Kd.S d e W base ok (.slice (some ad) n cap) xs) (z : α) (i : Int) (h0 : 0 ≤ i) (h1 : i < n) :
    ∃ (oki : Nat → Prop) (c : List Value), c.length = d.sz ∧ d.M W base oki (xs.getD i.toNat z) c ∧ (∀ j u, c[j]? = some u → W.cell? (ad.add (i.toNat * d.sz + j)) = some u) ∧ (∀ k, oki k → ok k ∧ some k ≠ (Value.slice (some ad) n cap).ownBlock) ∧
      ∀ {w1 : World} {T : Nat → Prop}, Kept W w1 T → (∀ k, T k → oki k) → ∀ {x' : α}, d.M w1 base oki x' c → Kd.S d e w1 base ok (.slice (some ad) n cap) (xs.set i.toNat x') := by
  obtain ⟨g, rfl⟩ := Kd.R_head (Kd.S_R h)
  obtain ⟨oki, c, hcl, hM, hcc, hoki, hH⟩ := Kd.S_lend h z i h0 h1
  refine ⟨oki, c, hcl, hM, fun j u hu => ?_, fun k hk => ⟨(hoki k hk).1, fun he => (hoki k hk).2 ?_⟩, fun hk hT _ hM1 => Kd.H_back (Kd.H_step hH (fun k _ hn hlt => hk.2 k hlt (fun ht => hn (hT k ht)))) hM1 (fun _ hk => hk)⟩
  · rw [add_at, Nat.zero_add]
    exact hcc j u hu
  · simpa [Value.ownBlock] using he
section
variable {P : Program} {ops : Array Oper} {rest : List Oper} {o : Oper} {a : Act} {Q : Exit → Act → World → Prop} {W : World}
/-- A box, its facts found by the tactic. -/
theorem bx_ {N : Tmp} {cs : Array Value} {t : TypeId} (h : ∀ g, g = W.heap.size → ∀ w1, w1.heap[g]? = some (.cells cs t (0, 0)) → Below W.heap.size W w1 → wpList P ops Q rest (a.put o.dst (.pointer (some ⟨g, 0, none⟩))) w1)
    (hd : o.dst = some N := by rfl) (hg : o.guard = none := by rfl) (hr : (execOp a.eval o).run P W = .ok (.value (.pointer (some ⟨W.heap.size, 0, none⟩))) (W.alloc (.cells cs t (0, 0))) := by first | (go_simp; done) | (go_simp; rfl)) : wpList P ops Q (o :: rest) a W := box_event hg hd hr h
end
theorem bg_ {w W : World} {g : Nat} (hg : g = W.heap.size) (b : Below w.heap.size w W) : w.heap.size ≤ g := by rw [hg]; exact below_size b
theorem bc_ {w : World} {g : Nat} {t : TypeId} {cs : Array Value} {v : Value} (h : w.heap[g]? = some (.cells cs t (0, 0))) (i : Nat) (e : cs[i]? = some v := by rfl) : w.cell? ⟨g, i, none⟩ = some v := (blk_cell h i).trans e
theorem od_ {p : Prop} [Decidable p] (h : decide p = true) : p := of_decide_eq_true h
theorem er_ {α : Type} {a b : α} (h : a = b := by first | rfl | (simp [errW_none, errW_some] <;> rfl) | (simp [*, errW_none, errW_some] <;> rfl)) : a = b := h
/-- A goal rewritten by an equation. -/
theorem rw_ {α : Sort _} {a b : α} {G G' : Prop} (c : a = b) (h : G') (k : a = b → G = G' := by intro c; first | rw [c] | (simp only [i64_w, i32_w]; rw [c]) | (have cz_ := c; simp only [bne, gt_iff_lt, Int.natCast_pos] at cz_; first | rw [cz_] | (simp only [i64_w, i32_w]; rw [cz_])) | rfl) : G := (k c).mpr h
theorem fin_ {w : World} {g : Nat} {t : TypeId} {c c' : Array Value} (h : w.heap[g]? = some (.cells c t (0, 0))) (e : c = c') : w.heap[g]? = some (.cells c' t (0, 0)) := e ▸ h
theorem far_ {w : World} {g g' i : Nat} {r : Option Nat} {t : TypeId} {cs : Array Value} (hp : g ≠ g') (h : w.heap[g]? = some (.cells cs t (0, 0))) (u : Value) : (w.setCell ⟨g', i, r⟩ u).heap[g]? = some (.cells cs t (0, 0)) := blk_far h hp u
/-- A block, behind stores into it and into others. -/
theorem pP_ {w w' : World} {g : Nat} {t : TypeId} {cs cs' : Array Value} (h : w.heap[g]? = some (.cells cs t (0, 0))) (k : w.heap[g]? = some (.cells cs t (0, 0)) → w'.heap[g]? = some (.cells cs' t (0, 0)) := by
    intro h; apply fin_; (with_reducible repeat (first | apply blk_drewN | apply blk_drew | apply blk_alloc | apply blk_set | (apply far_; exact Aside0.out (by assumption)) | apply putN_allx | (apply farN_; exact Aside0.out (by assumption)))); exact h; all_goals (first | with_reducible rfl | (simp only [List.setIfInBounds_toArray, List.set_cons_zero, List.set_cons_succ]; done) | (simp only [List.setIfInBounds_toArray, List.set_cons_zero, List.set_cons_succ]; rfl) | rfl)) : w'.heap[g]? = some (.cells cs' t (0, 0)) := k h
section
variable {α : Type} {d : Kd α} {e base g : Nat} {ok ok' ok2 : Nat → Prop} {v : Value} {xs : List α} {w w' : World}
theorem fs_ (h : d.S e w base (fun k => ok k ∧ k ≠ g) v xs) (i : Nat) (u : Value) : d.S e (w.setCell ⟨g, i, none⟩ u) base (fun k => ok k ∧ k ≠ g) v xs := Kd.S_far (p := ⟨g, i, none⟩) h (fun _ hk => hk.2) u
theorem fr2_ (h : d.R e w base (fun k => ok k ∧ k ≠ g) v xs) (i : Nat) (u : Value) : d.R e (w.setCell ⟨g, i, none⟩ u) base (fun k => ok k ∧ k ≠ g) v xs := Kd.R_far (p := ⟨g, i, none⟩) h (fun _ hk => hk.2) u
theorem sM_ (h : d.S e w base ok v xs) (m : ∀ k, ok k → ok' k) (k : d.S e w base ok v xs → d.S e w' base ok v xs := by intro h; repeat (with_reducible first | exact h | apply Kd.S_alloc | apply Kd.S_drewN | apply Kd.S_drew | refine fs_ ?_ _ _ | refine fsN_ ?_)) : d.S e w' base ok' v xs := Kd.S_mono (k h) m
theorem rM_ (h : d.R e w base ok v xs) (m : ∀ k, ok k → ok' k) (k : d.R e w base ok v xs → d.R e w' base ok v xs := by intro h; repeat (with_reducible first | exact h | apply Kd.R_alloc | apply Kd.R_drewN | apply Kd.R_drew | refine fr2_ ?_ _ _ | refine frN_ ?_)) : d.R e w' base ok' v xs := Kd.R_mono (k h) m
end
theorem nl_ {W : World} {g gn : Nat} {o : Obj} (hg : gn = W.heap.size) (h : W.heap[g]? = some o) : g ≠ gn := by rw [hg]; exact Nat.ne_of_lt (blk_lt h)
theorem ng_ {W : World} {g gn : Nat} {o : Obj} (hg : gn = W.heap.size) (h : W.heap[g]? = some o) : gn ≠ g := by rw [hg]; exact Nat.ne_of_gt (blk_lt h)
theorem cs_ {w : World} {a : Addr} {g i : Nat} {r : Option Nat} {u v : Value} (hp : a.block ≠ g) (h : w.cell? a = some v) : (w.setCell ⟨g, i, r⟩ u).cell? a = some v := (cell_far (p := ⟨g, i, r⟩) hp u).trans h
/-- A block known whole, of whatever type. -/
def Bv (w : World) (g : Nat) (cs : Array Value) : Prop := ∃ t, w.heap[g]? = some (.cells cs t (0, 0))
theorem Bv.cell {w : World} {g : Nat} {cs : Array Value} (h : Bv w g cs) (i : Nat) : w.cell? ⟨g, i, none⟩ = cs[i]? := by
  obtain ⟨t, h⟩ := h
  exact blk_cell h i
theorem Bv.far {w : World} {b g i : Nat} {r : Option Nat} {u : Value} {cs : Array Value} (hp : b ≠ g) (h : Bv w b cs) : Bv (w.setCell ⟨g, i, r⟩ u) b cs := by
  obtain ⟨t, h⟩ := h
  exact ⟨t, blk_far h (p := ⟨g, i, r⟩) hp u⟩
theorem cF_ {w W : World} {a : Addr} {g : Nat} {v : Value} (hp : a.block ≠ g) (h : w.cell? a = some v) (k : a.block ≠ g → w.cell? a = some v → W.cell? a = some v := by intro hp h; (with_reducible repeat (first | apply cs_ hp | apply csN_ hp)); exact h) : W.cell? a = some v := k hp h
theorem be3_ {w : World} {g : Nat} {t : TypeId} {cs : Array Value} {v0 v1 v2 : Value} (h : w.heap[g]? = some (.cells cs t (0, 0))) (e0 : cs[0]? = some v0 := by rfl) (e1 : cs[1]? = some v1 := by rfl) (e2 : cs[2]? = some v2 := by rfl) : w.cell? ⟨g, 0, none⟩ = some v0 ∧ w.cell? ⟨g, 1, none⟩ = some v1 ∧ w.cell? ⟨g, 2, none⟩ = some v2 := ⟨(blk_cell h 0).trans e0, (blk_cell h 1).trans e1, (blk_cell h 2).trans e2⟩
theorem bk5_ {w : World} {g : Nat} {t : TypeId} {cs : Array Value} {v0 v1 v2 v3 v4 : Value} {R : Prop} (h : w.heap[g]? = some (.cells cs t (0, 0))) (r : R) (e0 : cs[0]? = some v0 := by rfl) (e1 : cs[1]? = some v1 := by rfl) (e2 : cs[2]? = some v2 := by rfl) (e3 : cs[3]? = some v3 := by rfl) (e4 : cs[4]? = some v4 := by rfl) : w.cell? ⟨g, 0, none⟩ = some v0 ∧ w.cell? ⟨g, 1, none⟩ = some v1 ∧ w.cell? ⟨g, 2, none⟩ = some v2 ∧ w.cell? ⟨g, 3, none⟩ = some v3 ∧ w.cell? ⟨g, 4, none⟩ = some v4 ∧ R := ⟨(blk_cell h 0).trans e0, (blk_cell h 1).trans e1, (blk_cell h 2).trans e2, (blk_cell h 3).trans e3, (blk_cell h 4).trans e4, r⟩
theorem be5_ {w : World} {g : Nat} {t : TypeId} {cs : Array Value} {v0 v1 v2 v3 v4 : Value} (h : w.heap[g]? = some (.cells cs t (0, 0))) (e0 : cs[0]? = some v0 := by rfl) (e1 : cs[1]? = some v1 := by rfl) (e2 : cs[2]? = some v2 := by rfl) (e3 : cs[3]? = some v3 := by rfl) (e4 : cs[4]? = some v4 := by rfl) : w.cell? ⟨g, 0, none⟩ = some v0 ∧ w.cell? ⟨g, 1, none⟩ = some v1 ∧ w.cell? ⟨g, 2, none⟩ = some v2 ∧ w.cell? ⟨g, 3, none⟩ = some v3 ∧ w.cell? ⟨g, 4, none⟩ = some v4 := ⟨(blk_cell h 0).trans e0, (blk_cell h 1).trans e1, (blk_cell h 2).trans e2, (blk_cell h 3).trans e3, (blk_cell h 4).trans e4⟩
theorem bk6_ {w : World} {g : Nat} {t : TypeId} {cs : Array Value} {v0 v1 v2 v3 v4 v5 : Value} {R : Prop} (h : w.heap[g]? = some (.cells cs t (0, 0))) (r : R) (e0 : cs[0]? = some v0 := by rfl) (e1 : cs[1]? = some v1 := by rfl) (e2 : cs[2]? = some v2 := by rfl) (e3 : cs[3]? = some v3 := by rfl) (e4 : cs[4]? = some v4 := by rfl) (e5 : cs[5]? = some v5 := by rfl) : w.cell? ⟨g, 0, none⟩ = some v0 ∧ w.cell? ⟨g, 1, none⟩ = some v1 ∧ w.cell? ⟨g, 2, none⟩ = some v2 ∧ w.cell? ⟨g, 3, none⟩ = some v3 ∧ w.cell? ⟨g, 4, none⟩ = some v4 ∧ w.cell? ⟨g, 5, none⟩ = some v5 ∧ R := ⟨(blk_cell h 0).trans e0, (blk_cell h 1).trans e1, (blk_cell h 2).trans e2, (blk_cell h 3).trans e3, (blk_cell h 4).trans e4, (blk_cell h 5).trans e5, r⟩
theorem be6_ {w : World} {g : Nat} {t : TypeId} {cs : Array Value} {v0 v1 v2 v3 v4 v5 : Value} (h : w.heap[g]? = some (.cells cs t (0, 0))) (e0 : cs[0]? = some v0 := by rfl) (e1 : cs[1]? = some v1 := by rfl) (e2 : cs[2]? = some v2 := by rfl) (e3 : cs[3]? = some v3 := by rfl) (e4 : cs[4]? = some v4 := by rfl) (e5 : cs[5]? = some v5 := by rfl) : w.cell? ⟨g, 0, none⟩ = some v0 ∧ w.cell? ⟨g, 1, none⟩ = some v1 ∧ w.cell? ⟨g, 2, none⟩ = some v2 ∧ w.cell? ⟨g, 3, none⟩ = some v3 ∧ w.cell? ⟨g, 4, none⟩ = some v4 ∧ w.cell? ⟨g, 5, none⟩ = some v5 := ⟨(blk_cell h 0).trans e0, (blk_cell h 1).trans e1, (blk_cell h 2).trans e2, (blk_cell h 3).trans e3, (blk_cell h 4).trans e4, (blk_cell h 5).trans e5⟩
theorem rk6_ {w W W' : World} {a0 a1 a2 a3 a4 a5 : Addr} {v0 v1 v2 v3 v4 v5 : Value} {R : Prop} (hb : Below w.heap.size w W) (h0 : w.cell? a0 = some v0) (h1 : w.cell? a1 = some v1) (h2 : w.cell? a2 = some v2) (h3 : w.cell? a3 = some v3) (h4 : w.cell? a4 = some v4) (h5 : w.cell? a5 = some v5) (r : R) (hW : ∀ p, W'.cell? p = W.cell? p := by intro _; rfl) : W'.cell? a0 = some v0 ∧ W'.cell? a1 = some v1 ∧ W'.cell? a2 = some v2 ∧ W'.cell? a3 = some v3 ∧ W'.cell? a4 = some v4 ∧ W'.cell? a5 = some v5 ∧ R := ⟨(hW _).trans (rc_ hb h0), (hW _).trans (rc_ hb h1), (hW _).trans (rc_ hb h2), (hW _).trans (rc_ hb h3), (hW _).trans (rc_ hb h4), (hW _).trans (rc_ hb h5), r⟩
theorem re6_ {w W W' : World} {a0 a1 a2 a3 a4 a5 : Addr} {v0 v1 v2 v3 v4 v5 : Value} (hb : Below w.heap.size w W) (h0 : w.cell? a0 = some v0) (h1 : w.cell? a1 = some v1) (h2 : w.cell? a2 = some v2) (h3 : w.cell? a3 = some v3) (h4 : w.cell? a4 = some v4) (h5 : w.cell? a5 = some v5) (hW : ∀ p, W'.cell? p = W.cell? p := by intro _; rfl) : W'.cell? a0 = some v0 ∧ W'.cell? a1 = some v1 ∧ W'.cell? a2 = some v2 ∧ W'.cell? a3 = some v3 ∧ W'.cell? a4 = some v4 ∧ W'.cell? a5 = some v5 := ⟨(hW _).trans (rc_ hb h0), (hW _).trans (rc_ hb h1), (hW _).trans (rc_ hb h2), (hW _).trans (rc_ hb h3), (hW _).trans (rc_ hb h4), (hW _).trans (rc_ hb h5)⟩
/-- A block of n cells that are held. -/
def Blk (w : World) (g n : Nat) : Prop := ∃ cs t, w.heap[g]? = some (.cells cs t (0, 0)) ∧ cs.size = n
theorem Blk.put {w : World} {g b n i : Nat} {v : Value} (h : Blk w g n) : Blk (w.setCell ⟨b, i, none⟩ v) g n := by
  obtain ⟨cs, t, h1, h2⟩ := h
  by_cases e : g = b
  · subst e; exact ⟨_, t, blk_set h1 i v, by simpa using h2⟩
  · exact ⟨cs, t, blk_far h1 e v, h2⟩
theorem Blk.drewN {w : World} {g n : Nat} (h : Blk w g n) (m : Nat) : Blk (w.drewN m) g n := h
theorem Blk.drew {w : World} {g n : Nat} (h : Blk w g n) : Blk w.drew g n := h
theorem Blk.alloc {w : World} {g n : Nat} (h : Blk w g n) (o : Obj) : Blk (w.alloc o) g n := by
  obtain ⟨cs, t, h1, h2⟩ := h
  exact ⟨cs, t, blk_alloc h1 o, h2⟩
theorem Blk.putN {w : World} {g b n o : Nat} {vs : List Value} (h : Blk w g n) : Blk (putN w b o vs) g n := putN_ind (C := fun w => Blk w g n) (fun _ _ _ h => h.put) vs w o h
section
variable {P : Program} {ops : Array Oper} {rest : List Oper} {o : Oper} {a : Act} {Q : Exit → Act → World → Prop} {W w1 : World}
end
/-- What a load of one cell yields. -/
def ldd (P : Program) (w : World) (p : Addr) (m : Mode) : Result Value :=
  match w.cell? p with
  | some v => .ok v w
  | none =>
    match World.farLoad P w p (m == Mode.atomic) with
    | .ok (v, _) => .ok v w
    | .error h => .halt h w
section
variable {P : Program} {ops : Array Oper} {rest : List Oper} {o : Oper} {a : Act} {Q : Exit → Act → World → Prop} {W : World} {v : Value}
end
section
variable {P : Program} {ops : Array Oper} {rest : List Oper} {o : Oper} {a : Act} {Q : Exit → Act → World → Prop} {W w1 : World} {v : Value}
end
open Kd in
/-- A row into which one element was put: what its cells hold. -/
theorem R_inserted {α : Type} {d : Kd α} {e base : Nat} {ok okp : Nat → Prop} {W w1 : World} {v v1 : Value} {xs : List α} {p : α} {inner cs : List Value} {k : Nat} (hk : k ≤ xs.length) (h0 : ∀ k, v.ownBlock = some k → ok k) (hr : Reps (d.M W base (fun k => ok k ∧ some k ≠ v.ownBlock)) d.sz xs inner) (hp : d.M W base okp p cs) (hokp : ∀ k, okp k → ok k ∧ some k ≠ v.ownBlock) (hfresh : ∀ k, W.heap.size ≤ k → ok k)
    (hown : w1.ownsRow base e d.sz v1 (xs.length + 1) (inner.take (k * d.sz) ++ cs ++ inner.drop (k * d.sz))) (hg : W.grownBy w1 v.ownBlock) (hat : v1.ownBlock = v.ownBlock ∨ ∃ b, v1.ownBlock = some b ∧ W.heap.size ≤ b) : d.R e w1 base ok v1 (xs.take k ++ p :: xs.drop k) := by
  have hne : ∀ k, some k ≠ v.ownBlock → k < W.heap.size → some k ≠ v1.ownBlock := by
    intro k hk hlt
    rcases hat with hat | ⟨b, hb, hle⟩
    · rw [hat]; exact hk
    · rw [hb]
      intro he
      injection he with he
      omega
  have step : ∀ {q : α} {c : List Value} {o : Nat → Prop}, d.M W base o q c → (∀ k, o k → ok k ∧ some k ≠ v.ownBlock) → d.M w1 base (fun k => ok k ∧ some k ≠ v1.ownBlock) q c := by
    intro q c o hq ho
    have h1 := d.M_move (w1 := w1) (fun k hk => hg.block k hk.2.2.1 (ho k hk.1).2) (d.M_bound hq)
    exact d.M_mono (fun k hk => ⟨(ho k hk.1).1, hne k (ho k hk.1).2 hk.2.2.1⟩) h1
  have hlen : (xs.take k ++ p :: xs.drop k).length = xs.length + 1 := by simp; omega
  have hst : ∀ q c, d.M W base (fun k => ok k ∧ some k ≠ v.ownBlock) q c → d.M w1 base (fun k => ok k ∧ some k ≠ v1.ownBlock) q c := fun _ _ hq => step hq (fun _ h => h)
  refine ⟨fun k hk => ?_, inner.take (k * d.sz) ++ cs ++ inner.drop (k * d.sz), by rw [hlen]; exact hown, ?_⟩
  · rcases hat with hat | ⟨b, hb, hle⟩
    · exact h0 k (hat ▸ hk)
    · rw [hb] at hk
      injection hk with hk
      exact hfresh k (by omega)
  · have h := reps_append (((reps_take hr hk).imp_ hst).snoc (step hp hokp) (d.K_len (d.K_of_M hp))) ((reps_drop (m := k) hr).imp_ hst)
    simpa using h
/-- copy of elements of any size: all is read before anything is written. -/
theorem copy_run_ {P : Program} (w : World) (dT sT ty elem : TypeId) (b o dLen dCap : Nat) (a : Addr) (sLen sCap sz : Nat) (cs : List Value)
    (hu : P.underlying dT = some (.slice elem)) (hs : (P.info? elem).map (·.size) = some sz) (hn : cs.length = Nat.min sLen dLen * sz)
    (hsrc : ∀ j v, cs[j]? = some v → w.cell? (a.add j) = some v) (hc : ∀ j, j < cs.length → (w.cell? ⟨b, o + j, none⟩).isSome = true) (hf : ∀ j, j < cs.length → w.frozen? ⟨b, o + j, none⟩ = false) (h1 : ∀ v ∈ cs, v.oneCell' = true) :
    (Builtin.copy_ #[dT, sT] ty #[.slice (some ⟨b, o, none⟩) dLen dCap, .slice (some a) sLen sCap]).run P w = .ok (goInt (Nat.min sLen dLen)) (w.setCells b o cs) := by
  have hl := run_loadCells_list (P := P) w a cs hsrc
  have hst := run_storeCells_cells (P := P) b o cs 0 w (by simpa using hc) (by simpa using hf) h1
  cases hq : P.info? elem with
  | none => simp [hq] at hs
  | some i =>
    have hi : i.size = sz := by simpa [hq] using hs
    simp [Builtin.copy_, run_underlying hu, Builtin.lenOf, Builtin.firstCells, sizeOf, typeInfo, hq, hi, ← hn, hl, hst]
theorem wp_copy_ {P : Program} (w : World) {o : Oper} {a : Act} {K : Act → World → Prop} {Q : Exit → Act → World → Prop} (d s : Operand) (t t' : TypeId)
    (ho : o.op = .call { callee := .builtin .copy, args := #[d, s], argTypes := #[t, t'] }) (v u : Value) (hd : a.eval d = v) (hs : a.eval s = u) {v' : Value} {w' : World}
    (hr : (Builtin.copy_ #[t, t'] o.type #[v, u]).run P w = .ok v' w') (h : K (a.put o.dst v') w') : o.wp P a w K Q := by
  unfold Oper.wp execOp
  simp only [ho, resolve, invoke, builtin, Sem.run_bind, Sem.run_pure, Result.andThen_ok, List.map_toArray, List.map_cons, List.map_nil, hd, hs, hr]
  exact h
theorem copyL_ {P : Program} (w : World) {ops : Array Oper} {rest : List Oper} {o : Oper} {a : Act} {Q : Exit → Act → World → Prop} (hgd : o.guard = none) (d s : Operand) (t t' : TypeId)
    (ho : o.op = .call { callee := .builtin .copy, args := #[d, s], argTypes := #[t, t'] }) (v u : Value) (hd : a.eval d = v) (hs : a.eval s = u) {v' : Value} {w' : World}
    (hr : (Builtin.copy_ #[t, t'] o.type #[v, u]).run P w = .ok v' w') (h : wpList P ops Q rest (a.put o.dst v') w') : wpList P ops Q (o :: rest) a w :=
  wpList_plain hgd fun _ hK => wp_copy_ w d s t t' ho v u hd hs hr (hK _ _ h)
theorem copyS_ {P : Program} {ops : Array Oper} {o : Oper} {a : Act} {w : World} {K : Act → World → Prop} {Q : Exit → Act → World → Prop} {E : Prop}
    (hg : o.guard = none) (d x : Operand) (dT sT : TypeId) (hop : o.op = Op.call { callee := Callee.builtin Builtin.copy, args := #[d, x], argTypes := #[dT, sT] })
    (v u : Value) (hd : a.eval d = v) (hx : a.eval x = u) {v' : Value} {w' : World} (hr : (Builtin.copy_ #[dT, sT] o.type #[v, u]).run P w = .ok v' w') (hK : K (a.put o.dst v') w') :
    if Region.wanted o (yielded ops a.tmps) = true then Oper.wp P o a w K Q else E := by
  have hw : Region.wanted o (yielded ops a.tmps) = true := by simp [Region.wanted, hg]
  rw [if_pos hw]
  exact wp_copy_ w d x dT sT hop v u hd hx hr hK
/-- Two writes side by side: what a row's first cells are then. -/
theorem two_in (P1 N1 C : List Value) (L : List Value) (o s : Nat) (ho : o ≤ L.length) (hP : P1 = L.take o) (hC : C.length = s) (hfit : o + s + N1.length ≤ L.length) :
    let L1 := L.take (o + s) ++ N1 ++ L.drop (o + s + N1.length); (L1.take o ++ C ++ L1.drop (o + C.length)).take (o + s + N1.length) = P1 ++ C ++ N1 := by
  intro L1
  have e1 : L1.take o = L.take o := by
    simp only [L1]
    rw [List.append_assoc, List.take_append_of_le_length (by simp; omega), List.take_take, Nat.min_eq_left (by omega)]
  have e2 : L1.drop (o + s) = N1 ++ L.drop (o + s + N1.length) := by
    simp only [L1]
    rw [List.append_assoc]
    exact List.drop_left' (by simp; omega)
  rw [e1, hC, e2, hP, ← List.append_assoc]
  exact List.take_left' (by simp; omega)
theorem two_out (P1 N1 C : List Value) (L : List Value) (o s : Nat) (ho : o ≤ L.length) (hP : P1 = L.take o) (hC : C.length = s) (_hfit : o + s + N1.length ≤ L.length) :
    let L1 := L.take o ++ C ++ L.drop (o + C.length); (L1.take (o + s) ++ N1 ++ L1.drop (o + s + N1.length)).take (o + s + N1.length) = P1 ++ C ++ N1 := by
  intro L1
  have e1 : L1.take (o + s) = L.take o ++ C := by
    simp only [L1]
    exact List.take_left' (by simp; omega)
  rw [e1, hP]
  exact List.take_left' (by simp; omega)
open Kd in
/-- A row in place: what stood from an element on goes one further, the new one is laid. -/
theorem R_shifted {α : Type} {d : Kd α} {e base g n c k : Nat} {ok okp : Nat → Prop} {W Wv w1 : World} {xs : List α} {p : α} {inner cs : List Value} {cur : Array Value} (hWv : W.grownBy Wv none) (hk : k ≤ n) (hn : n = xs.length) (hroom : n + 1 ≤ c) (hcm : c ≤ maxLen) (hb : base ≤ g) (_hgl : g < W.heap.size) (h0 : ok g)
    (hr : Reps (d.M W base (fun k => ok k ∧ some k ≠ some g)) d.sz xs inner) (hp : d.M W base okp p cs) (hokp : ∀ k, okp k → ok k ∧ some k ≠ some g) (hfresh : ∀ k, W.heap.size ≤ k → ok k)
    (hh : Wv.heap[g]? = some (.cells cur e (0, 0))) (hcs : cur.size = c * d.sz) (htake : cur.toList.take (n * d.sz) = inner)
    (hw1 : w1 = (Wv.setCells g ((k + 1) * d.sz) (inner.drop (k * d.sz))).setCells g (k * d.sz) cs) : d.R e w1 base ok (.slice (some ⟨g, 0, none⟩) (n + 1) c) (xs.take k ++ p :: xs.drop k) ∧ W.grownBy w1 (some g) := by
  have hcl := d.K_len (d.K_of_M hp)
  have hil : inner.length = n * d.sz := by rw [hr.1, hn]
  have hks : (k + 1) * d.sz = k * d.sz + d.sz := Nat.succ_mul _ _
  have hns : (n + 1) * d.sz = n * d.sz + d.sz := Nat.succ_mul _ _
  have hkn : k * d.sz ≤ n * d.sz := Nat.mul_le_mul_right _ hk
  have hnc : (n + 1) * d.sz ≤ c * d.sz := Nat.mul_le_mul_right _ hroom
  have hnl : (inner.drop (k * d.sz)).length = n * d.sz - k * d.sz := by rw [List.length_drop, hil]
  have hcl2 : cur.toList.length = cur.size := Array.length_toList
  obtain ⟨c1, h1, h2, h3⟩ := setCells_row (inner.drop (k * d.sz)) ((k + 1) * d.sz) Wv cur hh (by rw [hnl]; omega)
  obtain ⟨c2, h4, h5, h6⟩ := setCells_row cs (k * d.sz) _ c1 h1 (by rw [hcl]; omega)
  obtain ⟨s1, s2, s3, s4⟩ := setCells_same g (inner.drop (k * d.sz)) ((k + 1) * d.sz) Wv
  obtain ⟨t1, t2, t3, t4⟩ := setCells_same g cs (k * d.sz) (Wv.setCells g ((k + 1) * d.sz) (inner.drop (k * d.sz)))
  rw [← hw1] at h4 t1 t2 t3 t4
  have hfar : ∀ k', k' ≠ g → w1.heap[k']? = Wv.heap[k']? := fun k' hk' => by rw [hw1, setCells_far cs _ k' hk', setCells_far _ _ k' hk']
  have hG : W.grownBy w1 (some g) := ⟨by rw [t1, s1]; exact hWv.os, by rw [t2, s2]; exact hWv.tape, by rw [t3, s3]; exact hWv.output, by rw [t4, s4]; exact hWv.size, fun k' hl hk' => by rw [hfar k' (fun he => hk' (by rw [he]))]; exact hWv.block k' hl (by simp)⟩
  refine ⟨R_inserted (v := .slice (some ⟨g, 0, none⟩) n c) (k := k) (by omega) (fun k' hk' => ?_) (by simpa [Value.ownBlock] using hr) hp (by simpa [Value.ownBlock] using hokp) hfresh ?_ (by simpa [Value.ownBlock] using hG) (.inl (by simp [Value.ownBlock])), hG⟩
  · have : g = k' := by simpa [Value.ownBlock] using hk'
    exact this ▸ h0
  · refine ⟨by simp only [List.length_append, List.length_take, hnl, hcl, hil]; rw [← hn, hns]; omega, .inr ⟨g, c, c2, by rw [hn], hb, h4, by omega, hcm, by rw [h5, h2, hcs], ?_⟩⟩
    rw [h6, h3, ← hn, hns, hks]
    have := two_in (inner.take (k * d.sz)) (inner.drop (k * d.sz)) cs cur.toList (k * d.sz) d.sz (by omega) (by rw [← htake, List.take_take, Nat.min_eq_left hkn]) hcl (by rw [hnl]; omega)
    simp only [hnl, show k * d.sz + d.sz + (n * d.sz - k * d.sz) = n * d.sz + d.sz by omega] at this ⊢
    exact this
open Kd in
/-- A new row: what stood ahead of an element, the new one, what stood from there on. -/
theorem R_moved {α : Type} {d : Kd α} {e base n G k : Nat} {ok okp : Nat → Prop} {W Wv w1 : World} {xs : List α} {p : α} {inner cs : List Value} {v : Value} {row : Array Value} {N : Nat} (hWv : W.grownBy Wv none) (hN : W.heap.size ≤ N) (hbN : base ≤ N) (hk : k ≤ n) (hn : n = xs.length) (hroom : n + 1 ≤ G) (hcm : G ≤ maxLen) (h0 : ∀ k, v.ownBlock = some k → ok k)
    (hr : Reps (d.M W base (fun k => ok k ∧ some k ≠ v.ownBlock)) d.sz xs inner) (hp : d.M W base okp p cs) (hokp : ∀ k, okp k → ok k ∧ some k ≠ v.ownBlock) (hfresh : ∀ k, W.heap.size ≤ k → ok k)
    (hh : Wv.heap[N]? = some (.cells row e (0, 0))) (hcs : row.size = G * d.sz) (htake : row.toList.take (k * d.sz) = inner.take (k * d.sz))
    (hw1 : w1 = (Wv.setCells N (k * d.sz) cs).setCells N ((k + 1) * d.sz) (inner.drop (k * d.sz))) : d.R e w1 base ok (.slice (some ⟨N, 0, none⟩) (n + 1) G) (xs.take k ++ p :: xs.drop k) ∧ W.grownBy w1 v.ownBlock := by
  have hcl := d.K_len (d.K_of_M hp)
  have hil : inner.length = n * d.sz := by rw [hr.1, hn]
  have hks : (k + 1) * d.sz = k * d.sz + d.sz := Nat.succ_mul _ _
  have hns : (n + 1) * d.sz = n * d.sz + d.sz := Nat.succ_mul _ _
  have hkn : k * d.sz ≤ n * d.sz := Nat.mul_le_mul_right _ hk
  have hnc : (n + 1) * d.sz ≤ G * d.sz := Nat.mul_le_mul_right _ hroom
  have hnl : (inner.drop (k * d.sz)).length = n * d.sz - k * d.sz := by rw [List.length_drop, hil]
  have hcl2 : row.toList.length = row.size := Array.length_toList
  obtain ⟨c1, h1, h2, h3⟩ := setCells_row cs (k * d.sz) Wv row hh (by rw [hcl]; omega)
  obtain ⟨c2, h4, h5, h6⟩ := setCells_row (inner.drop (k * d.sz)) ((k + 1) * d.sz) _ c1 h1 (by rw [hnl]; omega)
  obtain ⟨s1, s2, s3, s4⟩ := setCells_same N cs (k * d.sz) Wv
  obtain ⟨t1, t2, t3, t4⟩ := setCells_same N (inner.drop (k * d.sz)) ((k + 1) * d.sz) (Wv.setCells N (k * d.sz) cs)
  rw [← hw1] at h4 t1 t2 t3 t4
  have hfar : ∀ k', k' ≠ N → w1.heap[k']? = Wv.heap[k']? := fun k' hk' => by rw [hw1, setCells_far _ _ k' hk', setCells_far cs _ k' hk']
  have hG : W.grownBy w1 v.ownBlock := ⟨by rw [t1, s1]; exact hWv.os, by rw [t2, s2]; exact hWv.tape, by rw [t3, s3]; exact hWv.output, by rw [t4, s4]; exact hWv.size, fun k' hl hk' => by rw [hfar k' (by omega)]; exact hWv.block k' hl (by simp)⟩
  refine ⟨R_inserted (v := v) (k := k) (by omega) h0 hr hp hokp hfresh ?_ hG (.inr ⟨N, by simp [Value.ownBlock], hN⟩), hG⟩
  refine ⟨by simp only [List.length_append, List.length_take, hnl, hcl, hil]; rw [← hn, hns]; omega, .inr ⟨N, G, c2, by rw [hn], hbN, h4, by omega, hcm, by rw [h5, h2, hcs], ?_⟩⟩
  rw [h6, h3, ← hn, hns, hks]
  have := two_out (inner.take (k * d.sz)) (inner.drop (k * d.sz)) cs row.toList (k * d.sz) d.sz (by omega) htake.symm hcl (by rw [hnl]; omega)
  simp only [hnl, show k * d.sz + d.sz + (n * d.sz - k * d.sz) = n * d.sz + d.sz by omega] at this ⊢
  exact this
theorem drew_setC (b : Nat) : ∀ (vs : List Value) (o : Nat) (w : World), (w.setCells b o vs).drew = w.drew.setCells b o vs
  | [], _, _ => rfl
  | v :: r, o, w => by rw [World.setCells, World.setCells, drew_setC b r]; rfl
theorem ones_ {α : Type} {d : Kd α} {W : World} {base : Nat} {ok : Nat → Prop} {xs : List α} {inner : List Value} (hr : Reps (d.M W base ok) d.sz xs inner) : ∀ v ∈ inner, v.oneCell' = true := by
  intro v hv
  obtain ⟨q, hq, rfl⟩ := List.mem_iff_getElem.1 hv
  have hs0 : 0 < d.sz := by
    rcases Nat.eq_zero_or_pos d.sz with h | h
    · have := hr.1; rw [h, Nat.mul_zero] at this; omega
    · exact h
  have hql : q / d.sz < xs.length := by rw [Nat.div_lt_iff_lt_mul hs0, ← hr.1]; exact hq
  refine d.K_one (d.K_of_M (hr.2 (q / d.sz) _ (List.getElem?_eq_getElem hql))) _ ?_
  rw [List.mem_iff_getElem?]
  refine ⟨q % d.sz, ?_⟩
  rw [List.getElem?_take, if_pos (Nat.mod_lt _ hs0), List.getElem?_drop, Nat.mul_comm, Nat.div_add_mod, List.getElem?_eq_getElem hq]
theorem zips_ {α : Type} (xs : List α) (p : α) (i : Nat) (hi : i ≤ xs.length) : (xs.zipIdx.take i ++ ([(p, xs.length)] ++ xs.zipIdx.drop i)).map (fun z => (z.1, if z.2 = xs.length then i else if z.2 < i then z.2 else z.2 + 1)) = (xs.take i ++ ([p] ++ xs.drop i)).zipIdx := by
  have h1 : (xs.zipIdx.take i).map (fun z => (z.1, if z.2 = xs.length then i else if z.2 < i then z.2 else z.2 + 1)) = (xs.take i).zipIdx := by
    apply List.ext_getElem?
    intro j
    rw [List.getElem?_map, List.getElem?_zipIdx, List.getElem?_take, List.getElem?_take]
    by_cases h : j < i
    · rw [if_pos h, if_pos h, List.getElem?_zipIdx, List.getElem?_eq_getElem (by omega)]
      simp [show ¬ (j = xs.length) by omega, h]
    · rw [if_neg h, if_neg h]
      rfl
  have h3 : (xs.zipIdx.drop i).map (fun z => (z.1, if z.2 = xs.length then i else if z.2 < i then z.2 else z.2 + 1)) = (xs.drop i).zipIdx (i + 1) := by
    apply List.ext_getElem?
    intro j
    rw [List.getElem?_map, List.getElem?_zipIdx, List.getElem?_drop, List.getElem?_drop, List.getElem?_zipIdx]
    by_cases h : i + j < xs.length
    · rw [List.getElem?_eq_getElem h]
      simp only [Option.map_some, Nat.zero_add, if_neg (show ¬ (i + j = xs.length) by omega), if_neg (show ¬ (i + j < i) by omega)]
      rw [show i + j + 1 = i + 1 + j by omega]
    · rw [List.getElem?_eq_none (by omega)]
      rfl
  have hx : (xs.take i).length = i := by rw [List.length_take]; omega
  rw [List.map_append, List.map_append, h1, h3, List.zipIdx_append, List.zipIdx_append, hx]
  simp
open Kd in
/-- The places of a row whose elements lead to rows apart, told anew. -/
theorem S_retag {α : Type} {d : Kd α} {e base : Nat} {ok : Nat → Prop} {w : World} {v : Value} {f : Nat → Nat} {zs : List (α × Nat)} {ys : List α} (h : (tag f d).R e w base ok v zs) (s : Nat → Nat) (hz : zs.map (fun z => (z.1, s z.2)) = ys.zipIdx) : S d e w base ok v ys := by
  obtain ⟨h0, inner, ho, hr⟩ := h
  refine ⟨fun k => s (f k), h0, inner, by rw [← hz, List.length_map]; exact ho, by rw [← hz, List.length_map]; exact hr.1, fun j q hj => ?_⟩
  rw [← hz, List.getElem?_map] at hj
  obtain ⟨z, hzj, rfl⟩ := Option.map_eq_some_iff.1 hj
  exact d.M_mono (fun k hk => ⟨hk.1, congrArg s hk.2⟩) (hr.2 j z hzj)

end Go.Proofs.YtjfknflhajeglabV
