/- Words of this session's: a call of a function value by what is told of it. No condition beyond those that stand in each line. -/
import Derived.Test.YtpkdkhhknmlpjaaWWords
import Derived.Test.YtpkdkhhknmlpjaaWLast
import Derived.Test.YtpkdkhhknmlpjaaWMore
import Derived.Test.YtpkdkhhknmlpjaaWApart
import Derived.Test.YtpkdkhhknmlpjaaWKept
import Derived.Test.YtpkdkhhknmlpjaaWTab
import Derived.Deep.RegionLaw
import Derived.Laws.IdiomCopy
namespace Go.Proofs.YtpkdkhhknmlpjaaV
open Go.RowKit Go.Proofs.YtpkdkhhknmlpjaaW.PrintWords Go.Proofs.YtpkdkhhknmlpjaaW.PrintLast Go.Proofs.YtpkdkhhknmlpjaaW.PrintMore
/-- The element at a place of an array of three ints. -/
def ar3 (a b c i : Int) : Int := if i = 0 then a else if i = 1 then b else c
theorem ar3_three {i : Int} (h0 : decide (0 ≤ i) = true) (h1 : decide (i < 3) = true) : i = 0 ∨ i = 1 ∨ i = 2 := by
  have h0 := of_decide_eq_true h0
  have h1 := of_decide_eq_true h1
  omega
/-- The world gets a letter. -/
theorem relet_ {C F : World → Prop} {W : World} (hF : F W) (h : ∀ w', F w' → C w') : C W := h W hF
/-- More is known of the world from here on. -/
theorem more_ {P : Program} {md : Region.Mode} {ops : Array Oper} {Q : Exit → Act → World → Prop} {S S2 : World → Prop} (h12 : ∀ w, S2 w → S w) : ∀ {fuel : Nat} {l : Array Bool} {a : Act} {w : World}, S2 w → (S2 w → wpAnyLast P md ops Q S2 [] fuel l a w) → wpAnyLast P md ops Q S [] fuel l a w
  | 0, _, _, _, h2, h => h h2
  | fuel + 1, _, _, _, h2, h => ⟨(h h2).1, fun i hi => wpOp_mono (fun _ _ h' => have hn := h'.1 (by simp) h2; ⟨fun _ _ => h12 _ hn, more_ h12 hn (fun _ => h'.2)⟩) ((h h2).2 i hi)⟩
/-- Stores into the cells of a block, from a place on. -/
def putN (w : World) (g o : Nat) : List Value → World
  | [] => w
  | v :: vs => putN (w.setCell ⟨g, o, none⟩ v) g (o + 1) vs
theorem putN_ind {C : World → Prop} {g : Nat} (step : ∀ w o v, C w → C (w.setCell ⟨g, o, none⟩ v)) : ∀ (vs : List Value) (w : World) (o : Nat), C w → C (putN w g o vs)
  | [], _, _, h => h
  | v :: vs, w, o, h => putN_ind step vs _ _ (step w o v h)
theorem csN_ {w : World} {a : Addr} {g o : Nat} {vs : List Value} {v : Value} (hp : a.block ≠ g) (h : w.cell? a = some v) : (putN w g o vs).cell? a = some v := putN_ind (C := fun w => w.cell? a = some v) (fun _ _ u h => (cell_far (p := ⟨g, _, none⟩) hp u).trans h) vs w o h
theorem farN_ {w : World} {g g' o : Nat} {vs : List Value} {t : TypeId} {cs : Array Value} (hp : g ≠ g') (h : w.heap[g]? = some (.cells cs t (0, 0))) : (putN w g' o vs).heap[g]? = some (.cells cs t (0, 0)) := putN_ind (C := fun w => w.heap[g]? = some (.cells cs t (0, 0))) (fun _ _ u h => blk_far h hp u) vs w o h
theorem putN_at {g : Nat} {t : TypeId} : ∀ (vs pre cs : List Value) (w : World), cs.length = vs.length → w.heap[g]? = some (.cells (pre ++ cs).toArray t (0, 0)) → (putN w g pre.length vs).heap[g]? = some (.cells (pre ++ vs).toArray t (0, 0))
  | [], pre, [], w, _, h => h
  | v :: vs, pre, c :: cs, w, e, h => by
    have h1 := blk_set h pre.length v
    have e1 : (pre ++ c :: cs).toArray.setIfInBounds pre.length v = ((pre ++ [v]) ++ cs).toArray := by simp
    rw [e1] at h1
    have h2 := putN_at vs (pre ++ [v]) cs (w.setCell ⟨g, pre.length, none⟩ v) (by simpa using e) h1
    simp only [List.length_append, List.length_cons, List.length_nil, Nat.zero_add, List.append_assoc, List.cons_append, List.nil_append] at h2
    exact h2
theorem putN_all {w : World} {g : Nat} {t : TypeId} {cs : Array Value} {vs : List Value} (h : w.heap[g]? = some (.cells cs t (0, 0))) (e : cs.size = vs.length := by rfl) : (putN w g 0 vs).heap[g]? = some (.cells vs.toArray t (0, 0)) := by
  have := putN_at vs [] cs.toList w (by simpa using e) (by simpa using h)
  simpa using this
theorem putN_allx {w : World} {g : Nat} {t : TypeId} {cs : Array Value} {vs : List Value} (h : w.heap[g]? = some (.cells cs t (0, 0))) (e : cs.size = vs.length) : (putN w g 0 vs).heap[g]? = some (.cells vs.toArray t (0, 0)) := putN_all h e
theorem belowN_ {w W : World} {g o : Nat} {vs : List Value} (h : Below w.heap.size w W) (hg : w.heap.size ≤ g) : Below w.heap.size w (putN W g o vs) := putN_ind (C := fun W => Below w.heap.size w W) (fun _ _ _ h => below_set h hg) vs W o h
theorem keepN_ {w W : World} {g b o : Nat} {row : Option Nat} {vs : List Value} (h : KeepBut w W g row) (hp : w.heap.size ≤ b) : KeepBut w (putN W b o vs) g row := putN_ind (C := fun W => KeepBut w W g row) (fun _ _ _ h => keep_far (p := ⟨b, _, none⟩) h hp _) vs W o h
section
variable {α : Type} {d : Kd α} {e base g o : Nat} {ok : Nat → Prop} {v : Value} {xs : List α} {w : World} {vs : List Value}
theorem fsN_ (h : d.S e w base (fun k => ok k ∧ k ≠ g) v xs) : d.S e (putN w g o vs) base (fun k => ok k ∧ k ≠ g) v xs := putN_ind (C := fun w => d.S e w base (fun k => ok k ∧ k ≠ g) v xs) (fun _ _ u h => Kd.S_far (p := ⟨g, _, none⟩) h (fun _ hk => hk.2) u) vs w o h
theorem frN_ (h : d.R e w base (fun k => ok k ∧ k ≠ g) v xs) : d.R e (putN w g o vs) base (fun k => ok k ∧ k ≠ g) v xs := putN_ind (C := fun w => d.R e w base (fun k => ok k ∧ k ≠ g) v xs) (fun _ _ u h => Kd.R_far (p := ⟨g, _, none⟩) h (fun _ hk => hk.2) u) vs w o h
end
/-- Which of n operations have run, as the bits of a number. -/
def bz (n m : Nat) : Array Bool := ((List.range n).map fun i => m.testBit i).toArray
section
variable {P : Program} {md : Region.Mode} {ops : Array Oper} {Q : Exit → Act → World → Prop} {S : World → Prop} {ds : List Nat} {i : Nat} {N : Option Tmp} {fuel : Nat} {l : Array Bool} {a : Act} {w : World}
/-- An operation that yields in every world. -/
theorem px_ (l' : Array Bool) (hc : anyB md ops l l' i = true) {oi : Oper} {v : Value} {a' : Act} (h : wpAnyLast P md ops Q S ds fuel l' a' w) (hi : ops[i]? = some oi := by rfl) (hN : oi.dst = N := by rfl)
    (hQ : ∀ c a w, Q (.panic c) (a.put oi.dst v) w → Q (.panic c) a w := by exact fun _ _ _ h => h) (hw : Region.wanted oi (yielded ops a.tmps) = true := by rfl) (hv : ∀ w', (execOp a.eval oi).run P w' = .ok (.value v) w' := by intro w'; go_simp; with_reducible rfl)
    (ha : a.put N v = a' := by simp only [Act.put, List.setIfInBounds_toArray, List.set_cons_zero, List.set_cons_succ, i64_w, i32_w]; rfl) : wpAnyLast P md ops Q S ds (fuel + 1) l a w := pure_ l' hi hN hc hQ (Or.inl ⟨hw, hv⟩) ha h
/-- An operation whose guard is not met. -/
theorem ox_ (l' : Array Bool) (hc : anyB md ops l l' i = true) {oi : Oper} {a' : Act} (h : wpAnyLast P md ops Q S ds fuel l' a' w) (hi : ops[i]? = some oi := by rfl) (hN : oi.dst = N := by rfl)
    (hQ : ∀ c a w, Q (.panic c) (a.put oi.dst undef) w → Q (.panic c) a w := by exact fun _ _ _ h => h) (hw : Region.wanted oi (yielded ops a.tmps) = false := by rfl)
    (ha : a.put N undef = a' := by simp only [Act.put, List.setIfInBounds_toArray, List.set_cons_zero, List.set_cons_succ, i64_w, i32_w]; rfl) : wpAnyLast P md ops Q S ds (fuel + 1) l a w := pure_ l' hi hN hc hQ (Or.inr ⟨hw, rfl⟩) ha h
/-- An operation that reads. -/
theorem tx_ (l' : Array Bool) {oi : Oper} (hi : ops[i]? = some oi) (hN : oi.dst = N) (hc : takeB md ops ds l l' i = true) (hS : S w) {v : Value} {a' : Act} (hv : ∀ w', S w' → (execOp a.eval oi).run P w' = .ok (.value v) w') (h : wpAnyLast P md ops Q S ds fuel l' a' w)
    (hQ : ∀ c a w, Q (.panic c) (a.put oi.dst v) w → Q (.panic c) a w := by exact fun _ _ _ h => h) (hw : Region.wanted oi (yielded ops a.tmps) = true := by rfl)
    (ha : a.put N v = a' := by simp only [Act.put, List.setIfInBounds_toArray, List.set_cons_zero, List.set_cons_succ, i64_w, i32_w]; rfl) : wpAnyLast P md ops Q S ds (fuel + 1) l a w := take_ l' hi hN hc hQ (Or.inl ⟨hw, hv⟩) hS ha h
theorem ta_ (i N n m : Nat) {T : Bool × List (List Nat × List Nat)} {B : List Nat} (hT : Aside0 (rtab md ops = T)) (hB : Aside0 (waitsOk T.2 B = true)) {oi : Oper} (hi : ops[i]? = some oi) (hN : oi.dst = some N) (hS : S w) {v : Value} {a' : Act} (hv : ∀ w', S w' → (execOp a.eval oi).run P w' = .ok (.value v) w') (h : wpAnyLast P md ops Q S ds fuel (bz n m) a' w) (hc : takeW T B ds l.toList (bz n m).toList i = true := by kernel_rfl)
    (hQ : ∀ c a w, Q (.panic c) (a.put oi.dst v) w → Q (.panic c) a w := by exact fun _ _ _ h => h) (hw : Region.wanted oi (yielded ops a.tmps) = true := by rfl)
    (ha : a.put (some N) v = a' := by simp only [Act.put, List.setIfInBounds_toArray, List.set_cons_zero, List.set_cons_succ, i64_w, i32_w]; rfl) : wpAnyLast P md ops Q S ds (fuel + 1) l a w := tx_ (bz n m) hi hN (take_ofW hT.out hB.out hc) hS hv h hQ hw ha
theorem oa_ (i N n m : Nat) {T : Bool × List (List Nat × List Nat)} (hT : Aside0 (rtab md ops = T)) {oi : Oper}
    (h : ∀ K : Act → World → Prop, Shut (∀ a' w', S w' → (S w' → wpAnyLast P md ops Q S ds fuel (bz n m) a' w') → K a' w') → if Region.wanted oi (yielded ops a.tmps) = true then Oper.wp P oi a w K Q else K (a.put (some N) undef) w) (hi : ops[i]? = some oi := by rfl) (hN : oi.dst = some N := by rfl) (hc : (readyT T.2 l.toList == [i] && l.toList.set i true == (bz n m).toList) = true := by kernel_rfl) (hd : i ∉ ds := by decide) :
    wpAnyLast P md ops Q S ds (fuel + 1) l a w := one_ (bz n m) hi hN (one_of hT.out hc) hd h
theorem pb_ (i : Nat) {n m N : Nat} {T : Bool × List (List Nat × List Nat)} {oi : Oper} {v : Value} {a' : Act} (h : wpAnyLast P md ops Q S ds fuel (bz n (m + 2 ^ i)) a' w) (hT : Aside0 (rtab md ops = T) := by assumption) (hc : anyT T (bz n m).toList (bz n (m + 2 ^ i)).toList i = true := by kernel_rfl) (hi : ops[i]? = some oi := by rfl) (hN : oi.dst = some N := by rfl)
    (hQ : ∀ c a w, Q (.panic c) (a.put oi.dst v) w → Q (.panic c) a w := by exact fun _ _ _ h => h) (hw : Region.wanted oi (yielded ops a.tmps) = true := by rfl) (hv : ∀ w', (execOp a.eval oi).run P w' = .ok (.value v) w' := by intro w'; go_simp; with_reducible rfl)
    (ha : a.put (some N) v = a' := by simp only [Act.put, List.setIfInBounds_toArray, List.set_cons_zero, List.set_cons_succ, i64_w, i32_w]; rfl) : wpAnyLast P md ops Q S ds (fuel + 1) (bz n m) a w := px_ (bz n (m + 2 ^ i)) (any_of hT.out hc) h hi hN hQ hw hv ha
theorem ob_ (i : Nat) {n m N : Nat} {T : Bool × List (List Nat × List Nat)} {oi : Oper} {a' : Act} (h : wpAnyLast P md ops Q S ds fuel (bz n (m + 2 ^ i)) a' w) (hT : Aside0 (rtab md ops = T) := by assumption) (hc : anyT T (bz n m).toList (bz n (m + 2 ^ i)).toList i = true := by kernel_rfl) (hi : ops[i]? = some oi := by rfl) (hN : oi.dst = some N := by rfl)
    (hQ : ∀ c a w, Q (.panic c) (a.put oi.dst undef) w → Q (.panic c) a w := by exact fun _ _ _ h => h) (hw : Region.wanted oi (yielded ops a.tmps) = false := by rfl)
    (ha : a.put (some N) undef = a' := by simp only [Act.put, List.setIfInBounds_toArray, List.set_cons_zero, List.set_cons_succ, i64_w, i32_w]; rfl) : wpAnyLast P md ops Q S ds (fuel + 1) (bz n m) a w := ox_ (bz n (m + 2 ^ i)) (any_of hT.out hc) h hi hN hQ hw ha
theorem tb_ (i : Nat) {n m N : Nat} {T : Bool × List (List Nat × List Nat)} {B : List Nat} {oi : Oper} (hi : ops[i]? = some oi) (hN : oi.dst = some N) (hS : S w) {v : Value} {a' : Act} (hv : ∀ w', S w' → (execOp a.eval oi).run P w' = .ok (.value v) w') (h : wpAnyLast P md ops Q S ds fuel (bz n (m + 2 ^ i)) a' w) (hT : Aside0 (rtab md ops = T) := by assumption) (hB : Aside0 (waitsOk T.2 B = true) := by assumption) (hc : takeW T B ds (bz n m).toList (bz n (m + 2 ^ i)).toList i = true := by kernel_rfl)
    (hQ : ∀ c a w, Q (.panic c) (a.put oi.dst v) w → Q (.panic c) a w := by exact fun _ _ _ h => h) (hw : Region.wanted oi (yielded ops a.tmps) = true := by rfl)
    (ha : a.put (some N) v = a' := by simp only [Act.put, List.setIfInBounds_toArray, List.set_cons_zero, List.set_cons_succ, i64_w, i32_w]; rfl) : wpAnyLast P md ops Q S ds (fuel + 1) (bz n m) a w := tx_ (bz n (m + 2 ^ i)) hi hN (take_ofW hT.out hB.out hc) hS hv h hQ hw ha
theorem rc_ {w W : World} {p : Addr} {v : Value} (hb : Below w.heap.size w W) (h : w.cell? p = some v) : W.cell? p = some v := (hb.cell (World.block_lt_of_cell? w _ h)).trans h
/-- The frame behind an operation, written out. -/
theorem nx_ {v : Value} {a' : Act} (h : wpAnyLast P md ops Q S ds fuel l a' w) (ha : a.put N v = a' := by simp only [Act.put, List.setIfInBounds_toArray, List.set_cons_zero, List.set_cons_succ, i64_w, i32_w]; rfl) : wpAnyLast P md ops Q S ds fuel l (a.put N v) w := norm_ ha h
end
section
variable {P : Program} {ops : Array Oper} {rest : List Oper} {o : Oper} {a : Act} {Q : Exit → Act → World → Prop} {W : World}
/-- The operation calls the function value in this place. -/
theorem gate_calleeV {j : Tmp} {as : Array Operand} {ts : Array TypeId} (_ho : o.op = .call { callee := .value (.tmp j), args := as, argTypes := ts }) (h : wpList P ops Q (o :: rest) a W) : wpList P ops Q (o :: rest) a W := h
/-- A call of a function value in a plain region. -/
theorem goesVL_ {oi : Oper} {w : World} (N : Option Tmp) (hd : oi.dst = N) (hg : oi.guard = none) {f : FuncId} {fn : Func} {as : Array Operand} {ts : Array TypeId} {j : Operand} (hf : P.funcs[f]? = some fn) (hname : (fn.name == "runtime.NumGoroutine") = false) (hb : fn.body.isSome = true) (args : Array Value) {cp : Array Value}
    (hop : oi.op = .call { callee := .value j, args := as, argTypes := ts }) (hv : a.eval j = .func (.func f) #[] cp) (hargs : as.map a.eval = args)
    (h : Calls P f (args ++ cp) w fun e w' => ∃ v, e = .returned v ∧ wpList P ops Q rest (a.put N v) w') : wpList P ops Q (oi :: rest) a w := by
  refine wpList_plain hg fun K hK => ?_
  have he := enters_ hf hname hb (args ++ cp) w
  have hrun : (execOp a.eval oi).run P w = .ok (.enter f (args ++ cp)) w := by
    unfold execOp
    simp [hop, resolve, Deferred.ofValue, invoke, hv, hargs, he]
  unfold Oper.wp
  rw [hrun, Oper.upon_enter]
  refine h.mono fun e w'' hh => ?_
  obtain ⟨v, rfl, hk⟩ := hh
  subst hd
  exact hK _ _ hk
/-- The same, as one step of a region that draws. -/
theorem goesV_ {oi : Oper} {N : Option Tmp} {w : World} {K : Act → World → Prop} {f : FuncId} {fn : Func} {as : Array Operand} {ts : Array TypeId} {j : Operand} (hf : P.funcs[f]? = some fn) (hname : (fn.name == "runtime.NumGoroutine") = false) (hb : fn.body.isSome = true) (args : Array Value) {cp : Array Value}
    (hw : Region.wanted oi (yielded ops a.tmps) = true) (hN : oi.dst = N) (hop : oi.op = .call { callee := .value j, args := as, argTypes := ts }) (hv : a.eval j = .func (.func f) #[] cp) (hargs : as.map a.eval = args)
    (h : Calls P f (args ++ cp) w fun e w' => ∃ v, e = .returned v ∧ K (a.put N v) w') : if Region.wanted oi (yielded ops a.tmps) = true then Oper.wp P oi a w K Q else K (a.put N undef) w := by
  refine call_ f (args ++ cp) hw hN ?_ h
  have he := enters_ hf hname hb (args ++ cp) w
  unfold execOp
  simp [hop, resolve, Deferred.ofValue, invoke, hv, hargs, he]
end
/-! What is held, at the world that stands. -/
theorem an_ {P Q : Prop} (h : P) (k : Q) : Aside0 P ∧ Q := ⟨⟨h⟩, k⟩
theorem pk_ {w w' : World} {g : Nat} {o : Obj} (h : w.heap[g]? = some o) (k : w.heap[g]? = some o → w'.heap[g]? = some o := by intro h; (with_reducible repeat (first | refine blk_drewN ?_ _ | refine blk_drew ?_ | refine blk_alloc ?_ _)); exact h) : w'.heap[g]? = some o := k h
theorem pB_ {B : Nat} {w0 w w' : World} (h : Below B w0 w) (k : Below B w0 w → Below B w0 w' := by intro h; repeat (first | (with_reducible first | exact h | apply below_alloc | apply pw_below_drewN | apply below_drew1 | refine below_set ?_ (Aside0.out (by assumption)) | refine belowN_ ?_ (Aside0.out (by assumption))) | exact h)) : Below B w0 w' := k h
section
variable {α : Type} {d : Kd α} {e base : Nat} {ok : Nat → Prop} {v : Value} {xs : List α} {w w' : World}
theorem pR_ (h : Kd.R d e w base ok v xs) (k : Kd.R d e w base ok v xs → Kd.R d e w' base ok v xs := by intro h; (with_reducible repeat (first | apply Kd.R_alloc | apply Kd.R_drewN | apply Kd.R_drew)); exact h) : Kd.R d e w' base ok v xs := k h
theorem pS_ (h : Kd.S d e w base ok v xs) (k : Kd.S d e w base ok v xs → Kd.S d e w' base ok v xs := by intro h; (with_reducible repeat (first | apply Kd.S_alloc | apply Kd.S_drewN | apply Kd.S_drew)); exact h) : Kd.S d e w' base ok v xs := k h
theorem pN_ (h : Kd.N d e w base ok v xs) (k : Kd.N d e w base ok v xs → Kd.N d e w' base ok v xs := by intro h; (with_reducible repeat (first | apply Kd.N_alloc | apply Kd.N_drewN | apply Kd.N_drew)); exact h) : Kd.N d e w' base ok v xs := k h
theorem pV_ (h : Kd.V d e w base ok v xs) (k : Kd.V d e w base ok v xs → Kd.V d e w' base ok v xs := by intro h; (with_reducible repeat (first | apply Kd.V_alloc | apply Kd.V_drewN | apply Kd.V_drew)); exact h) : Kd.V d e w' base ok v xs := k h
end
theorem cells1 {W : World} {g t : Nat} {v0 : Value} (h : W.heap[g]? = some (.cells #[v0] t (0, 0))) : W.cell? ⟨g, 0, none⟩ = some v0 ∧ W.frozen? ⟨g, 0, none⟩ = false := ⟨(blk_cell h 0).trans rfl, blk_frozen h 0⟩
theorem cells3 {W : World} {g t : Nat} {v0 v1 v2 : Value} (h : W.heap[g]? = some (.cells #[v0, v1, v2] t (0, 0))) : W.cell? ⟨g, 0, none⟩ = some v0 ∧ W.cell? ⟨g, 1, none⟩ = some v1 ∧ W.cell? ⟨g, 2, none⟩ = some v2 ∧ W.frozen? ⟨g, 0, none⟩ = false ∧ W.frozen? ⟨g, 1, none⟩ = false ∧ W.frozen? ⟨g, 2, none⟩ = false := ⟨(blk_cell h 0).trans rfl, (blk_cell h 1).trans rfl, (blk_cell h 2).trans rfl, blk_frozen h 0, blk_frozen h 1, blk_frozen h 2⟩
theorem cells5 {W : World} {g t : Nat} {v0 v1 v2 v3 v4 : Value} (h : W.heap[g]? = some (.cells #[v0, v1, v2, v3, v4] t (0, 0))) : W.cell? ⟨g, 0, none⟩ = some v0 ∧ W.cell? ⟨g, 1, none⟩ = some v1 ∧ W.cell? ⟨g, 2, none⟩ = some v2 ∧ W.cell? ⟨g, 3, none⟩ = some v3 ∧ W.cell? ⟨g, 4, none⟩ = some v4 ∧ W.frozen? ⟨g, 0, none⟩ = false ∧ W.frozen? ⟨g, 1, none⟩ = false ∧ W.frozen? ⟨g, 2, none⟩ = false ∧ W.frozen? ⟨g, 3, none⟩ = false ∧ W.frozen? ⟨g, 4, none⟩ = false := ⟨(blk_cell h 0).trans rfl, (blk_cell h 1).trans rfl, (blk_cell h 2).trans rfl, (blk_cell h 3).trans rfl, (blk_cell h 4).trans rfl, blk_frozen h 0, blk_frozen h 1, blk_frozen h 2, blk_frozen h 3, blk_frozen h 4⟩
theorem cells6 {W : World} {g t : Nat} {v0 v1 v2 v3 v4 v5 : Value} (h : W.heap[g]? = some (.cells #[v0, v1, v2, v3, v4, v5] t (0, 0))) : W.cell? ⟨g, 0, none⟩ = some v0 ∧ W.cell? ⟨g, 1, none⟩ = some v1 ∧ W.cell? ⟨g, 2, none⟩ = some v2 ∧ W.cell? ⟨g, 3, none⟩ = some v3 ∧ W.cell? ⟨g, 4, none⟩ = some v4 ∧ W.cell? ⟨g, 5, none⟩ = some v5 ∧ W.frozen? ⟨g, 0, none⟩ = false ∧ W.frozen? ⟨g, 1, none⟩ = false ∧ W.frozen? ⟨g, 2, none⟩ = false ∧ W.frozen? ⟨g, 3, none⟩ = false ∧ W.frozen? ⟨g, 4, none⟩ = false ∧ W.frozen? ⟨g, 5, none⟩ = false := ⟨(blk_cell h 0).trans rfl, (blk_cell h 1).trans rfl, (blk_cell h 2).trans rfl, (blk_cell h 3).trans rfl, (blk_cell h 4).trans rfl, (blk_cell h 5).trans rfl, blk_frozen h 0, blk_frozen h 1, blk_frozen h 2, blk_frozen h 3, blk_frozen h 4, blk_frozen h 5⟩
theorem cells7 {W : World} {g t : Nat} {v0 v1 v2 v3 v4 v5 v6 : Value} (h : W.heap[g]? = some (.cells #[v0, v1, v2, v3, v4, v5, v6] t (0, 0))) : W.cell? ⟨g, 0, none⟩ = some v0 ∧ W.cell? ⟨g, 1, none⟩ = some v1 ∧ W.cell? ⟨g, 2, none⟩ = some v2 ∧ W.cell? ⟨g, 3, none⟩ = some v3 ∧ W.cell? ⟨g, 4, none⟩ = some v4 ∧ W.cell? ⟨g, 5, none⟩ = some v5 ∧ W.cell? ⟨g, 6, none⟩ = some v6 ∧ W.frozen? ⟨g, 0, none⟩ = false ∧ W.frozen? ⟨g, 1, none⟩ = false ∧ W.frozen? ⟨g, 2, none⟩ = false ∧ W.frozen? ⟨g, 3, none⟩ = false ∧ W.frozen? ⟨g, 4, none⟩ = false ∧ W.frozen? ⟨g, 5, none⟩ = false ∧ W.frozen? ⟨g, 6, none⟩ = false := ⟨(blk_cell h 0).trans rfl, (blk_cell h 1).trans rfl, (blk_cell h 2).trans rfl, (blk_cell h 3).trans rfl, (blk_cell h 4).trans rfl, (blk_cell h 5).trans rfl, (blk_cell h 6).trans rfl, blk_frozen h 0, blk_frozen h 1, blk_frozen h 2, blk_frozen h 3, blk_frozen h 4, blk_frozen h 5, blk_frozen h 6⟩
theorem sl_inj {A A' : Option Addr} {n n' c c' : Nat} (h : Value.slice A n c = .slice A' n' c') : A' = A ∧ c' = c := by
  injection h with h1 h2 h3
  exact ⟨h1.symm, h3.symm⟩
section
variable {α β : Type} {d : Kd α} {d' : Kd β} {e e' base base' g n : Nat} {ok ok' : Nat → Prop} {u v v0 v1 v2 : Value} {xs : List α} {ys : List β} {w w' W : World} {A : Option Addr}
theorem pC_ (h : d.C w A n xs) (k : d.C w A n xs → d.C w' A n xs := by intro h; repeat (first | exact h | (with_reducible refine Kd.C_alloc ?_ _) | (with_reducible refine Kd.C_drewN ?_ _) | (with_reducible refine Kd.C_drew ?_))) : d.C w' A n xs := k h
theorem fr_ (h : d.R e w base (fun k => ok k ∧ k ≠ g) v xs) (i : Nat) (u : Value) : d.R e (w.setCell ⟨g, i, none⟩ u) base (fun k => ok k ∧ k ≠ g) v xs := Kd.R_far (p := ⟨g, i, none⟩) h (fun _ hk => hk.2) u
theorem nw_ (h : d.R e w W.heap.size ok v xs) (hu : d'.R e' W base' ok' u ys) : d.R e w W.heap.size (fun k => ok k ∧ some k ≠ u.ownBlock) v xs := Kd.R_new' h (Kd.R_lt hu)
end
theorem pK_ {w W W' : World} {g : Nat} (h : KeepBut w W g none) (k : KeepBut w W g none → KeepBut w W' g none := by intro h; repeat (first | (with_reducible first | exact h | apply KeepBut.set_ | apply keep_drewN | apply keep_drew | apply keep_alloc | refine keep_far ?_ (Aside0.out (by assumption)) _ | refine keepN_ ?_ (Aside0.out (by assumption))) | exact h)) : KeepBut w W' g none := k h
/-- 'k ≠ thLt N k' says k < N. -/
def thLt (N k : Nat) : Nat := if k < N then k + 1 else k
/-- 'k ≠ thGe N k' says N ≤ k. -/
def thGe (N k : Nat) : Nat := if N ≤ k then k + 1 else k
section
variable {P : Program} {ops : Array Oper} {rest : List Oper} {o : Oper} {a : Act} {Q : Exit → Act → World → Prop} {W : World}
/-- A box, its facts found by the tactic. -/
theorem bx_ {N : Tmp} {cs : Array Value} {t : TypeId} (h : ∀ g, g = W.heap.size → ∀ w1, w1.heap[g]? = some (.cells cs t (0, 0)) → Below W.heap.size W w1 → wpList P ops Q rest (a.put o.dst (.pointer (some ⟨g, 0, none⟩))) w1)
    (hd : o.dst = some N := by rfl) (hg : o.guard = none := by rfl) (hr : (execOp a.eval o).run P W = .ok (.value (.pointer (some ⟨W.heap.size, 0, none⟩))) (W.alloc (.cells cs t (0, 0))) := by first | (go_simp; done) | (go_simp; rfl)) : wpList P ops Q (o :: rest) a W := box_event hg hd hr h
end
theorem bg_ {w W : World} {g : Nat} (hg : g = W.heap.size) (b : Below w.heap.size w W) : w.heap.size ≤ g := by rw [hg]; exact below_size b
theorem bc_ {w : World} {g : Nat} {t : TypeId} {cs : Array Value} {v : Value} (h : w.heap[g]? = some (.cells cs t (0, 0))) (i : Nat) (e : cs[i]? = some v := by rfl) : w.cell? ⟨g, i, none⟩ = some v := (blk_cell h i).trans e
theorem od_ {p : Prop} [Decidable p] (h : decide p = true) : p := of_decide_eq_true h
theorem er_ {α : Type} {a b : α} (h : a = b := by first | rfl | (simp [errW_none, errW_some] <;> rfl) | (simp [*, errW_none, errW_some] <;> rfl)) : a = b := h
/-- A goal rewritten by an equation. -/
theorem rw_ {α : Sort _} {a b : α} {G G' : Prop} (c : a = b) (h : G') (k : a = b → G = G' := by intro c; first | rw [c] | (simp only [i64_w, i32_w]; rw [c]) | (have cz_ := c; simp only [bne, gt_iff_lt, Int.natCast_pos] at cz_; first | rw [cz_] | (simp only [i64_w, i32_w]; rw [cz_])) | rfl) : G := (k c).mpr h
theorem fin_ {w : World} {g : Nat} {t : TypeId} {c c' : Array Value} (h : w.heap[g]? = some (.cells c t (0, 0))) (e : c = c') : w.heap[g]? = some (.cells c' t (0, 0)) := e ▸ h
theorem far_ {w : World} {g g' i : Nat} {r : Option Nat} {t : TypeId} {cs : Array Value} (hp : g ≠ g') (h : w.heap[g]? = some (.cells cs t (0, 0))) (u : Value) : (w.setCell ⟨g', i, r⟩ u).heap[g]? = some (.cells cs t (0, 0)) := blk_far h hp u
/-- A block, behind stores into it and into others. -/
theorem pP_ {w w' : World} {g : Nat} {t : TypeId} {cs cs' : Array Value} (h : w.heap[g]? = some (.cells cs t (0, 0))) (k : w.heap[g]? = some (.cells cs t (0, 0)) → w'.heap[g]? = some (.cells cs' t (0, 0)) := by
    intro h; apply fin_; (with_reducible repeat (first | apply blk_drewN | apply blk_drew | apply blk_alloc | apply blk_set | (apply far_; exact Aside0.out (by assumption)) | apply putN_allx | (apply farN_; exact Aside0.out (by assumption)))); exact h; all_goals (first | with_reducible rfl | (simp only [List.setIfInBounds_toArray, List.set_cons_zero, List.set_cons_succ]; done) | (simp only [List.setIfInBounds_toArray, List.set_cons_zero, List.set_cons_succ]; rfl) | rfl)) : w'.heap[g]? = some (.cells cs' t (0, 0)) := k h
section
variable {α : Type} {d : Kd α} {e base g : Nat} {ok ok' ok2 : Nat → Prop} {v : Value} {xs : List α} {w w' : World}
theorem fs_ (h : d.S e w base (fun k => ok k ∧ k ≠ g) v xs) (i : Nat) (u : Value) : d.S e (w.setCell ⟨g, i, none⟩ u) base (fun k => ok k ∧ k ≠ g) v xs := Kd.S_far (p := ⟨g, i, none⟩) h (fun _ hk => hk.2) u
theorem fr2_ (h : d.R e w base (fun k => ok k ∧ k ≠ g) v xs) (i : Nat) (u : Value) : d.R e (w.setCell ⟨g, i, none⟩ u) base (fun k => ok k ∧ k ≠ g) v xs := Kd.R_far (p := ⟨g, i, none⟩) h (fun _ hk => hk.2) u
theorem sM_ (h : d.S e w base ok v xs) (m : ∀ k, ok k → ok' k) (k : d.S e w base ok v xs → d.S e w' base ok v xs := by intro h; repeat (with_reducible first | exact h | apply Kd.S_alloc | apply Kd.S_drewN | apply Kd.S_drew | refine fs_ ?_ _ _ | refine fsN_ ?_)) : d.S e w' base ok' v xs := Kd.S_mono (k h) m
theorem rM_ (h : d.R e w base ok v xs) (m : ∀ k, ok k → ok' k) (k : d.R e w base ok v xs → d.R e w' base ok v xs := by intro h; repeat (with_reducible first | exact h | apply Kd.R_alloc | apply Kd.R_drewN | apply Kd.R_drew | refine fr2_ ?_ _ _ | refine frN_ ?_)) : d.R e w' base ok' v xs := Kd.R_mono (k h) m
end
theorem nl_ {W : World} {g gn : Nat} {o : Obj} (hg : gn = W.heap.size) (h : W.heap[g]? = some o) : g ≠ gn := by rw [hg]; exact Nat.ne_of_lt (blk_lt h)
theorem ng_ {W : World} {g gn : Nat} {o : Obj} (hg : gn = W.heap.size) (h : W.heap[g]? = some o) : gn ≠ g := by rw [hg]; exact Nat.ne_of_gt (blk_lt h)
theorem cs_ {w : World} {a : Addr} {g i : Nat} {r : Option Nat} {u v : Value} (hp : a.block ≠ g) (h : w.cell? a = some v) : (w.setCell ⟨g, i, r⟩ u).cell? a = some v := (cell_far (p := ⟨g, i, r⟩) hp u).trans h
/-- A block known whole, of whatever type. -/
def Bv (w : World) (g : Nat) (cs : Array Value) : Prop := ∃ t, w.heap[g]? = some (.cells cs t (0, 0))
theorem Bv.cell {w : World} {g : Nat} {cs : Array Value} (h : Bv w g cs) (i : Nat) : w.cell? ⟨g, i, none⟩ = cs[i]? := by
  obtain ⟨t, h⟩ := h
  exact blk_cell h i
theorem Bv.far {w : World} {b g i : Nat} {r : Option Nat} {u : Value} {cs : Array Value} (hp : b ≠ g) (h : Bv w b cs) : Bv (w.setCell ⟨g, i, r⟩ u) b cs := by
  obtain ⟨t, h⟩ := h
  exact ⟨t, blk_far h (p := ⟨g, i, r⟩) hp u⟩
theorem Bv.farN {w : World} {b g o : Nat} {vs : List Value} {cs : Array Value} (hp : b ≠ g) (h : Bv w b cs) : Bv (putN w g o vs) b cs := putN_ind (C := fun w => Bv w b cs) (fun _ _ _ h => Bv.far hp h) vs w o h
theorem cF_ {w W : World} {a : Addr} {g : Nat} {v : Value} (hp : a.block ≠ g) (h : w.cell? a = some v) (k : a.block ≠ g → w.cell? a = some v → W.cell? a = some v := by intro hp h; (with_reducible repeat (first | apply cs_ hp | apply csN_ hp)); exact h) : W.cell? a = some v := k hp h
theorem bk3_ {w : World} {g : Nat} {t : TypeId} {cs : Array Value} {v0 v1 v2 : Value} {R : Prop} (h : w.heap[g]? = some (.cells cs t (0, 0))) (r : R) (e0 : cs[0]? = some v0 := by rfl) (e1 : cs[1]? = some v1 := by rfl) (e2 : cs[2]? = some v2 := by rfl) : w.cell? ⟨g, 0, none⟩ = some v0 ∧ w.cell? ⟨g, 1, none⟩ = some v1 ∧ w.cell? ⟨g, 2, none⟩ = some v2 ∧ R := ⟨(blk_cell h 0).trans e0, (blk_cell h 1).trans e1, (blk_cell h 2).trans e2, r⟩
theorem be3_ {w : World} {g : Nat} {t : TypeId} {cs : Array Value} {v0 v1 v2 : Value} (h : w.heap[g]? = some (.cells cs t (0, 0))) (e0 : cs[0]? = some v0 := by rfl) (e1 : cs[1]? = some v1 := by rfl) (e2 : cs[2]? = some v2 := by rfl) : w.cell? ⟨g, 0, none⟩ = some v0 ∧ w.cell? ⟨g, 1, none⟩ = some v1 ∧ w.cell? ⟨g, 2, none⟩ = some v2 := ⟨(blk_cell h 0).trans e0, (blk_cell h 1).trans e1, (blk_cell h 2).trans e2⟩
theorem bk5_ {w : World} {g : Nat} {t : TypeId} {cs : Array Value} {v0 v1 v2 v3 v4 : Value} {R : Prop} (h : w.heap[g]? = some (.cells cs t (0, 0))) (r : R) (e0 : cs[0]? = some v0 := by rfl) (e1 : cs[1]? = some v1 := by rfl) (e2 : cs[2]? = some v2 := by rfl) (e3 : cs[3]? = some v3 := by rfl) (e4 : cs[4]? = some v4 := by rfl) : w.cell? ⟨g, 0, none⟩ = some v0 ∧ w.cell? ⟨g, 1, none⟩ = some v1 ∧ w.cell? ⟨g, 2, none⟩ = some v2 ∧ w.cell? ⟨g, 3, none⟩ = some v3 ∧ w.cell? ⟨g, 4, none⟩ = some v4 ∧ R := ⟨(blk_cell h 0).trans e0, (blk_cell h 1).trans e1, (blk_cell h 2).trans e2, (blk_cell h 3).trans e3, (blk_cell h 4).trans e4, r⟩
theorem be5_ {w : World} {g : Nat} {t : TypeId} {cs : Array Value} {v0 v1 v2 v3 v4 : Value} (h : w.heap[g]? = some (.cells cs t (0, 0))) (e0 : cs[0]? = some v0 := by rfl) (e1 : cs[1]? = some v1 := by rfl) (e2 : cs[2]? = some v2 := by rfl) (e3 : cs[3]? = some v3 := by rfl) (e4 : cs[4]? = some v4 := by rfl) : w.cell? ⟨g, 0, none⟩ = some v0 ∧ w.cell? ⟨g, 1, none⟩ = some v1 ∧ w.cell? ⟨g, 2, none⟩ = some v2 ∧ w.cell? ⟨g, 3, none⟩ = some v3 ∧ w.cell? ⟨g, 4, none⟩ = some v4 := ⟨(blk_cell h 0).trans e0, (blk_cell h 1).trans e1, (blk_cell h 2).trans e2, (blk_cell h 3).trans e3, (blk_cell h 4).trans e4⟩
theorem bk6_ {w : World} {g : Nat} {t : TypeId} {cs : Array Value} {v0 v1 v2 v3 v4 v5 : Value} {R : Prop} (h : w.heap[g]? = some (.cells cs t (0, 0))) (r : R) (e0 : cs[0]? = some v0 := by rfl) (e1 : cs[1]? = some v1 := by rfl) (e2 : cs[2]? = some v2 := by rfl) (e3 : cs[3]? = some v3 := by rfl) (e4 : cs[4]? = some v4 := by rfl) (e5 : cs[5]? = some v5 := by rfl) : w.cell? ⟨g, 0, none⟩ = some v0 ∧ w.cell? ⟨g, 1, none⟩ = some v1 ∧ w.cell? ⟨g, 2, none⟩ = some v2 ∧ w.cell? ⟨g, 3, none⟩ = some v3 ∧ w.cell? ⟨g, 4, none⟩ = some v4 ∧ w.cell? ⟨g, 5, none⟩ = some v5 ∧ R := ⟨(blk_cell h 0).trans e0, (blk_cell h 1).trans e1, (blk_cell h 2).trans e2, (blk_cell h 3).trans e3, (blk_cell h 4).trans e4, (blk_cell h 5).trans e5, r⟩
theorem be6_ {w : World} {g : Nat} {t : TypeId} {cs : Array Value} {v0 v1 v2 v3 v4 v5 : Value} (h : w.heap[g]? = some (.cells cs t (0, 0))) (e0 : cs[0]? = some v0 := by rfl) (e1 : cs[1]? = some v1 := by rfl) (e2 : cs[2]? = some v2 := by rfl) (e3 : cs[3]? = some v3 := by rfl) (e4 : cs[4]? = some v4 := by rfl) (e5 : cs[5]? = some v5 := by rfl) : w.cell? ⟨g, 0, none⟩ = some v0 ∧ w.cell? ⟨g, 1, none⟩ = some v1 ∧ w.cell? ⟨g, 2, none⟩ = some v2 ∧ w.cell? ⟨g, 3, none⟩ = some v3 ∧ w.cell? ⟨g, 4, none⟩ = some v4 ∧ w.cell? ⟨g, 5, none⟩ = some v5 := ⟨(blk_cell h 0).trans e0, (blk_cell h 1).trans e1, (blk_cell h 2).trans e2, (blk_cell h 3).trans e3, (blk_cell h 4).trans e4, (blk_cell h 5).trans e5⟩
theorem bk7_ {w : World} {g : Nat} {t : TypeId} {cs : Array Value} {v0 v1 v2 v3 v4 v5 v6 : Value} {R : Prop} (h : w.heap[g]? = some (.cells cs t (0, 0))) (r : R) (e0 : cs[0]? = some v0 := by rfl) (e1 : cs[1]? = some v1 := by rfl) (e2 : cs[2]? = some v2 := by rfl) (e3 : cs[3]? = some v3 := by rfl) (e4 : cs[4]? = some v4 := by rfl) (e5 : cs[5]? = some v5 := by rfl) (e6 : cs[6]? = some v6 := by rfl) : w.cell? ⟨g, 0, none⟩ = some v0 ∧ w.cell? ⟨g, 1, none⟩ = some v1 ∧ w.cell? ⟨g, 2, none⟩ = some v2 ∧ w.cell? ⟨g, 3, none⟩ = some v3 ∧ w.cell? ⟨g, 4, none⟩ = some v4 ∧ w.cell? ⟨g, 5, none⟩ = some v5 ∧ w.cell? ⟨g, 6, none⟩ = some v6 ∧ R := ⟨(blk_cell h 0).trans e0, (blk_cell h 1).trans e1, (blk_cell h 2).trans e2, (blk_cell h 3).trans e3, (blk_cell h 4).trans e4, (blk_cell h 5).trans e5, (blk_cell h 6).trans e6, r⟩
theorem re3_ {w W W' : World} {a0 a1 a2 : Addr} {v0 v1 v2 : Value} (hb : Below w.heap.size w W) (h0 : w.cell? a0 = some v0) (h1 : w.cell? a1 = some v1) (h2 : w.cell? a2 = some v2) (hW : ∀ p, W'.cell? p = W.cell? p := by intro _; rfl) : W'.cell? a0 = some v0 ∧ W'.cell? a1 = some v1 ∧ W'.cell? a2 = some v2 := ⟨(hW _).trans (rc_ hb h0), (hW _).trans (rc_ hb h1), (hW _).trans (rc_ hb h2)⟩
theorem rk6_ {w W W' : World} {a0 a1 a2 a3 a4 a5 : Addr} {v0 v1 v2 v3 v4 v5 : Value} {R : Prop} (hb : Below w.heap.size w W) (h0 : w.cell? a0 = some v0) (h1 : w.cell? a1 = some v1) (h2 : w.cell? a2 = some v2) (h3 : w.cell? a3 = some v3) (h4 : w.cell? a4 = some v4) (h5 : w.cell? a5 = some v5) (r : R) (hW : ∀ p, W'.cell? p = W.cell? p := by intro _; rfl) : W'.cell? a0 = some v0 ∧ W'.cell? a1 = some v1 ∧ W'.cell? a2 = some v2 ∧ W'.cell? a3 = some v3 ∧ W'.cell? a4 = some v4 ∧ W'.cell? a5 = some v5 ∧ R := ⟨(hW _).trans (rc_ hb h0), (hW _).trans (rc_ hb h1), (hW _).trans (rc_ hb h2), (hW _).trans (rc_ hb h3), (hW _).trans (rc_ hb h4), (hW _).trans (rc_ hb h5), r⟩
theorem re6_ {w W W' : World} {a0 a1 a2 a3 a4 a5 : Addr} {v0 v1 v2 v3 v4 v5 : Value} (hb : Below w.heap.size w W) (h0 : w.cell? a0 = some v0) (h1 : w.cell? a1 = some v1) (h2 : w.cell? a2 = some v2) (h3 : w.cell? a3 = some v3) (h4 : w.cell? a4 = some v4) (h5 : w.cell? a5 = some v5) (hW : ∀ p, W'.cell? p = W.cell? p := by intro _; rfl) : W'.cell? a0 = some v0 ∧ W'.cell? a1 = some v1 ∧ W'.cell? a2 = some v2 ∧ W'.cell? a3 = some v3 ∧ W'.cell? a4 = some v4 ∧ W'.cell? a5 = some v5 := ⟨(hW _).trans (rc_ hb h0), (hW _).trans (rc_ hb h1), (hW _).trans (rc_ hb h2), (hW _).trans (rc_ hb h3), (hW _).trans (rc_ hb h4), (hW _).trans (rc_ hb h5)⟩
/-- A block of n cells that are held. -/
def Blk (w : World) (g n : Nat) : Prop := ∃ cs t, w.heap[g]? = some (.cells cs t (0, 0)) ∧ cs.size = n
theorem Blk.put {w : World} {g b n i : Nat} {v : Value} (h : Blk w g n) : Blk (w.setCell ⟨b, i, none⟩ v) g n := by
  obtain ⟨cs, t, h1, h2⟩ := h
  by_cases e : g = b
  · subst e; exact ⟨_, t, blk_set h1 i v, by simpa using h2⟩
  · exact ⟨cs, t, blk_far h1 e v, h2⟩
theorem Blk.drewN {w : World} {g n : Nat} (h : Blk w g n) (m : Nat) : Blk (w.drewN m) g n := h
theorem Blk.drew {w : World} {g n : Nat} (h : Blk w g n) : Blk w.drew g n := h
theorem Blk.alloc {w : World} {g n : Nat} (h : Blk w g n) (o : Obj) : Blk (w.alloc o) g n := by
  obtain ⟨cs, t, h1, h2⟩ := h
  exact ⟨cs, t, blk_alloc h1 o, h2⟩
theorem Blk.putN {w : World} {g b n o : Nat} {vs : List Value} (h : Blk w g n) : Blk (putN w b o vs) g n := putN_ind (C := fun w => Blk w g n) (fun _ _ _ h => h.put) vs w o h
section
variable {P : Program} {ops : Array Oper} {rest : List Oper} {o : Oper} {a : Act} {Q : Exit → Act → World → Prop} {W w1 : World}
end
/-- What a load of one cell yields. -/
def ldd (P : Program) (w : World) (p : Addr) (m : Mode) : Result Value :=
  match w.cell? p with
  | some v => .ok v w
  | none =>
    match World.farLoad P w p (m == Mode.atomic) with
    | .ok (v, _) => .ok v w
    | .error h => .halt h w
section
variable {P : Program} {ops : Array Oper} {rest : List Oper} {o : Oper} {a : Act} {Q : Exit → Act → World → Prop} {W : World} {v : Value}
end
section
variable {P : Program} {ops : Array Oper} {rest : List Oper} {o : Oper} {a : Act} {Q : Exit → Act → World → Prop} {W w1 : World} {v : Value}
end
end Go.Proofs.YtpkdkhhknmlpjaaV
