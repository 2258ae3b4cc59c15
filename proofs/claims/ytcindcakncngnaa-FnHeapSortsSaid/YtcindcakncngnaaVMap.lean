/- Words of this session's: a map with ints as keys that the call makes, and a slice compared with nil. No condition beyond those that stand in each line. -/
import Derived.Maps.Keyed
import Derived.Test.YtcindcakncngnaaVWords
namespace Go.Proofs.YtcindcakncngnaaV
open Go.RowKit Go.Proofs.YtcindcakncngnaaW.PrintWords Go.Proofs.YtcindcakncngnaaW.PrintLast Go.Proofs.YtcindcakncngnaaW.PrintMore
section
variable {α : Type}
/-- Where a key stands among the entries, and what it leads to. -/
def mfind : List (Int × α) → Int → Nat → Option (Nat × α)
  | [], _, _ => none
  | (k, v) :: r, x, i => if x = k then some (i, v) else mfind r x (i + 1)
/-- What a key leads to, or the zero value. -/
def mlook (d : α) (M : List (Int × α)) (x : Int) : α := ((mfind M x 0).map (·.2)).getD d
/-- The map with this key led to this value. -/
def mput (M : List (Int × α)) (x : Int) (v : α) : List (Int × α) := match mfind M x 0 with
  | some (j, _) => M.set j (x, v)
  | none => M ++ [(x, v)]
/-- The entries, as they lie in memory. -/
def ments (enc : α → Value) : List (Int × α) → Nat → List MapEntry
  | [], _ => []
  | (k, v) :: r, b => ⟨.int .i64 k, enc v, b⟩ :: ments enc r (b + 1)
/-- The map's block. -/
def mapB (enc : α → Value) (M : List (Int × α)) : Obj := .map (ments enc M 0).toArray M.length
variable {P : Program} {t kt et : TypeId} {w : World} {g : Nat} {enc : α → Value} {M : List (Int × α)} {x : Int}
end
section
variable {P : Program} {ops : Array Oper} {rest : List Oper} {o : Oper} {a : Act} {Q : Exit → Act → World → Prop} {α : Type} {enc : α → Value} {M : List (Int × α)} {W : World}
end
section
variable {P : Program}
theorem run_equalIn_nil (d : Nat) {t e : TypeId} (ht : P.underlying t = some (.slice e)) (A : Option Addr) (n c m q : Nat) (W : World) : (Op.equalIn (d + 1) t (.slice A n c) (.slice none m q)).run P W = .ok A.isNone W := by
  unfold Op.equalIn
  cases A <;> simp [run_underlying ht, Result.andThen]
variable {ops : Array Oper} {rest : List Oper} {o : Oper} {a : Act} {Q : Exit → Act → World → Prop} {W : World}
/-- A slice is compared with nil. -/
theorem isnil_event (hgd : o.guard = none) {N : Tmp} (_hd : o.dst = some N) {t u e : TypeId} {x y : Operand} (ho : o.op = .binOp .eql t x y u) {A : Option Addr} {n c m q : Nat} (hx : a.eval x = .slice A n c) (hy : a.eval y = .slice none m q) (ht : P.underlying t = some (.slice e)) {b : Bool} (hb : A.isNone = b)
    (h : wpList P ops Q rest (a.put o.dst (.bool b)) W) : wpList P ops Q (o :: rest) a W := by
  subst hb
  refine Kd.event_run hgd (w1 := W) (v := .bool A.isNone) ?_ h
  have h1 : (Op.equal t (.slice A n c) (.slice none m q)).run P W = .ok A.isNone W := run_equalIn_nil _ ht A n c m q W
  simp [execOp, ho, hx, hy, eqGuard, binOp, h1, Result.andThen]
theorem none_no {A : Option Addr} (h : ¬ A = none) : A.isNone = false := by
  cases A with
  | none => exact absurd rfl h
  | some _ => rfl
/-- What is nil is empty. -/
theorem nil_len {α : Type} {d : Kd α} {w : World} {n : Nat} {xs : List α} (h : d.C w none n xs) : n = 0 := by
  rcases Nat.eq_zero_or_pos n with h0 | h0
  · exact h0
  · obtain ⟨ad, e, _⟩ := h.2.2 h0
    cases e
end
end Go.Proofs.YtcindcakncngnaaV
