/- Words of this session's: a call of a function value by what is told of it. No condition beyond those that stand in each line. -/
import Derived.Test.YtecabogkenabnadWWords
import Derived.Test.YtecabogkenabnadWLast
import Derived.Test.YtecabogkenabnadWMore
namespace Go.Proofs.YtecabogkenabnadV
open Go.RowKit Go.Proofs.YtecabogkenabnadW.PrintWords Go.Proofs.YtecabogkenabnadW.PrintLast Go.Proofs.YtecabogkenabnadW.PrintMore
/-- The element at a place of an array of three ints. -/
def ar3 (a b c i : Int) : Int := if i = 0 then a else if i = 1 then b else c
theorem ar3_three {i : Int} (h0 : decide (0 ≤ i) = true) (h1 : decide (i < 3) = true) : i = 0 ∨ i = 1 ∨ i = 2 := by
  have h0 := of_decide_eq_true h0
  have h1 := of_decide_eq_true h1
  omega
/-- The world gets a letter. -/
theorem relet_ {C F : World → Prop} {W : World} (hF : F W) (h : ∀ w', F w' → C w') : C W := h W hF
/-- More is known of the world from here on. -/
theorem more_ {P : Program} {md : Region.Mode} {ops : Array Oper} {Q : Exit → Act → World → Prop} {S S2 : World → Prop} (h12 : ∀ w, S2 w → S w) : ∀ {fuel : Nat} {l : Array Bool} {a : Act} {w : World}, S2 w → (S2 w → wpAnyLast P md ops Q S2 [] fuel l a w) → wpAnyLast P md ops Q S [] fuel l a w
  | 0, _, _, _, h2, h => h h2
  | fuel + 1, _, _, _, h2, h => ⟨(h h2).1, fun i hi => wpOp_mono (fun _ _ h' => have hn := h'.1 (by simp) h2; ⟨fun _ _ => h12 _ hn, more_ h12 hn (fun _ => h'.2)⟩) ((h h2).2 i hi)⟩
/-- Which of n operations have run, as the bits of a number. -/
def bz (n m : Nat) : Array Bool := ((List.range n).map fun i => m.testBit i).toArray
section
variable {P : Program} {md : Region.Mode} {ops : Array Oper} {Q : Exit → Act → World → Prop} {S : World → Prop} {ds : List Nat} {i : Nat} {N : Option Tmp} {fuel : Nat} {l : Array Bool} {a : Act} {w : World}
/-- An operation that yields in every world. -/
theorem px_ (l' : Array Bool) (hc : anyB md ops l l' i = true) {oi : Oper} {v : Value} {a' : Act} (h : wpAnyLast P md ops Q S ds fuel l' a' w) (hi : ops[i]? = some oi := by rfl) (hN : oi.dst = N := by rfl)
    (hQ : ∀ c a w, Q (.panic c) (a.put oi.dst v) w → Q (.panic c) a w := by exact fun _ _ _ h => h) (hw : Region.wanted oi (yielded ops a.tmps) = true := by rfl) (hv : ∀ w', (execOp a.eval oi).run P w' = .ok (.value v) w' := by intro w'; go_simp; with_reducible rfl)
    (ha : a.put N v = a' := by simp only [Act.put, List.setIfInBounds_toArray, List.set_cons_zero, List.set_cons_succ, i64_w, i32_w]; rfl) : wpAnyLast P md ops Q S ds (fuel + 1) l a w := pure_ l' hi hN hc hQ (Or.inl ⟨hw, hv⟩) ha h
/-- An operation whose guard is not met. -/
theorem ox_ (l' : Array Bool) (hc : anyB md ops l l' i = true) {oi : Oper} {a' : Act} (h : wpAnyLast P md ops Q S ds fuel l' a' w) (hi : ops[i]? = some oi := by rfl) (hN : oi.dst = N := by rfl)
    (hQ : ∀ c a w, Q (.panic c) (a.put oi.dst undef) w → Q (.panic c) a w := by exact fun _ _ _ h => h) (hw : Region.wanted oi (yielded ops a.tmps) = false := by rfl)
    (ha : a.put N undef = a' := by simp only [Act.put, List.setIfInBounds_toArray, List.set_cons_zero, List.set_cons_succ, i64_w, i32_w]; rfl) : wpAnyLast P md ops Q S ds (fuel + 1) l a w := pure_ l' hi hN hc hQ (Or.inr ⟨hw, rfl⟩) ha h
/-- An operation that reads. -/
theorem tx_ (l' : Array Bool) {oi : Oper} (hi : ops[i]? = some oi) (hN : oi.dst = N) (hc : takeB md ops ds l l' i = true) (hS : S w) {v : Value} {a' : Act} (hv : ∀ w', S w' → (execOp a.eval oi).run P w' = .ok (.value v) w') (h : wpAnyLast P md ops Q S ds fuel l' a' w)
    (hQ : ∀ c a w, Q (.panic c) (a.put oi.dst v) w → Q (.panic c) a w := by exact fun _ _ _ h => h) (hw : Region.wanted oi (yielded ops a.tmps) = true := by rfl)
    (ha : a.put N v = a' := by simp only [Act.put, List.setIfInBounds_toArray, List.set_cons_zero, List.set_cons_succ, i64_w, i32_w]; rfl) : wpAnyLast P md ops Q S ds (fuel + 1) l a w := take_ l' hi hN hc hQ (Or.inl ⟨hw, hv⟩) hS ha h
/-- The frame behind an operation, written out. -/
theorem nx_ {v : Value} {a' : Act} (h : wpAnyLast P md ops Q S ds fuel l a' w) (ha : a.put N v = a' := by simp only [Act.put, List.setIfInBounds_toArray, List.set_cons_zero, List.set_cons_succ, i64_w, i32_w]; rfl) : wpAnyLast P md ops Q S ds fuel l (a.put N v) w := norm_ ha h
end
section
variable {P : Program} {ops : Array Oper} {rest : List Oper} {o : Oper} {a : Act} {Q : Exit → Act → World → Prop} {W : World}
/-- The operation calls the function value in this place. -/
theorem gate_calleeV {j : Tmp} {as : Array Operand} {ts : Array TypeId} (_ho : o.op = .call { callee := .value (.tmp j), args := as, argTypes := ts }) (h : wpList P ops Q (o :: rest) a W) : wpList P ops Q (o :: rest) a W := h
/-- A call of a function value in a plain region. -/
theorem goesVL_ {oi : Oper} {w : World} (N : Option Tmp) (hd : oi.dst = N) (hg : oi.guard = none) {f : FuncId} {fn : Func} {as : Array Operand} {ts : Array TypeId} {j : Operand} (hf : P.funcs[f]? = some fn) (hname : (fn.name == "runtime.NumGoroutine") = false) (hb : fn.body.isSome = true) (args : Array Value) {cp : Array Value}
    (hop : oi.op = .call { callee := .value j, args := as, argTypes := ts }) (hv : a.eval j = .func (.func f) #[] cp) (hargs : as.map a.eval = args)
    (h : Calls P f (args ++ cp) w fun e w' => ∃ v, e = .returned v ∧ wpList P ops Q rest (a.put N v) w') : wpList P ops Q (oi :: rest) a w := by
  refine wpList_plain hg fun K hK => ?_
  have he := enters_ hf hname hb (args ++ cp) w
  have hrun : (execOp a.eval oi).run P w = .ok (.enter f (args ++ cp)) w := by
    unfold execOp
    simp [hop, resolve, Deferred.ofValue, invoke, hv, hargs, he]
  unfold Oper.wp
  rw [hrun, Oper.upon_enter]
  refine h.mono fun e w'' hh => ?_
  obtain ⟨v, rfl, hk⟩ := hh
  subst hd
  exact hK _ _ hk
/-- The same, as one step of a region that draws. -/
theorem goesV_ {oi : Oper} {N : Option Tmp} {w : World} {K : Act → World → Prop} {f : FuncId} {fn : Func} {as : Array Operand} {ts : Array TypeId} {j : Operand} (hf : P.funcs[f]? = some fn) (hname : (fn.name == "runtime.NumGoroutine") = false) (hb : fn.body.isSome = true) (args : Array Value) {cp : Array Value}
    (hw : Region.wanted oi (yielded ops a.tmps) = true) (hN : oi.dst = N) (hop : oi.op = .call { callee := .value j, args := as, argTypes := ts }) (hv : a.eval j = .func (.func f) #[] cp) (hargs : as.map a.eval = args)
    (h : Calls P f (args ++ cp) w fun e w' => ∃ v, e = .returned v ∧ K (a.put N v) w') : if Region.wanted oi (yielded ops a.tmps) = true then Oper.wp P oi a w K Q else K (a.put N undef) w := by
  refine call_ f (args ++ cp) hw hN ?_ h
  have he := enters_ hf hname hb (args ++ cp) w
  unfold execOp
  simp [hop, resolve, Deferred.ofValue, invoke, hv, hargs, he]
end
end Go.Proofs.YtecabogkenabnadV
