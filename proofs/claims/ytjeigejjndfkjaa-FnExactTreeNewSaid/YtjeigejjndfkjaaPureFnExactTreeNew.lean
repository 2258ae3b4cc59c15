/- The program's TreeNew returns what the reference's TreeNew returns, for every number; the answer's memory is its own. No condition. -/
import Derived.Test.YtjeigejjndfkjaaPFnExactTreeNewx3
namespace Go.Proofs.Ytjeigejjndfkjaa.Pure
open Go.RowKit Go.Proofs.Ytjeigejjndfkjaa.PFnExactTreeNew Go.Proofs.YtjeigejjndfkjaaW.PrintWords Go.Proofs.YtjeigejjndfkjaaW.PrintLast Go.Proofs.YtjeigejjndfkjaaW.PrintMore Go.Proofs.YtjeigejjndfkjaaV
set_option linter.unusedVariables false
set_option linter.unusedSimpArgs false

theorem down {N : Nat} {P : Nat → Prop} (h0 : P N) (hs : ∀ n, n < N → P (n + 1) → P n) : ∀ n, n ≤ N → P n := by
  intro n hn
  obtain ⟨d, rfl⟩ : ∃ d, N = n + d := ⟨N - n, by omega⟩
  clear hn
  induction d generalizing n with
  | zero => exact h0
  | succ d ih => exact hs n (by omega) (ih (n + 1) (by rw [show n + 1 + d = n + (d + 1) by omega]; exact h0) (fun m hm hp => hs m (by omega) hp))

theorem wrap_id {x : Int} (h1 : -9223372036854775808 ≤ x) (h2 : x ≤ 9223372036854775807) : wrap64 x = x := by
  unfold wrap64; omega

theorem wrap_succ {n : Nat} (h : n < 4611686018427387904) : wrap64 ((n : Int) + 1) = ((n + 1 : Nat) : Int) := by
  rw [wrap_id (by omega) (by omega)]; omega

theorem wrap_pred {n : Nat} (h0 : 0 < n) (h : n < 4611686018427387904) : wrap64 ((n : Int) - 1) = ((n - 1 : Nat) : Int) := by
  rw [wrap_id (by omega) (by omega)]; omega

theorem getD_lt {α : Type} {l : List α} {n : Nat} (d : α) (h : n < l.length) : l.getD n d = l[n] := by
  rw [List.getD_eq_getElem?_getD, List.getElem?_eq_getElem h]; rfl

theorem rd_nat (l : List Int) (n : Nat) : rd l (n : Int) = l.getD n 0 := by
  unfold rd; simp

theorem Ev.now' {α : Type} {g : Nat → Option α} {r : α} (h : ∀ k, g k = some r) : Ev g r := ⟨0, fun k _ => h k⟩

/-- One round, and what follows. -/
theorem Ev.next {α : Type} {g f : Nat → Option α} {r : α} (k : Ev f r) (h : ∀ k, g (k + 1) = f k) : Ev g r := Ev.step h k

theorem Ev.to {α : Type} {g : Nat → Option α} {r q : α} (h : Ev g r) (e : r = q) : Ev g q := e ▸ h

theorem list_drop_cons {α : Type} {l : List α} {n : Nat} (h : n < l.length) : l.drop n = l[n] :: l.drop (n + 1) := List.drop_eq_getElem_cons h

theorem mem_drop {α : Type} {l : List α} {n : Nat} (h : n < l.length) {x : α} : x ∈ l.drop n ↔ x = l[n] ∨ x ∈ l.drop (n + 1) := by
  rw [List.drop_eq_getElem_cons h, List.mem_cons]

theorem any_drop {α : Type} {l : List α} {n : Nat} (h : n < l.length) (q : α → Bool) : (l.drop n).any q = (q l[n] || (l.drop (n + 1)).any q) := by
  rw [List.drop_eq_getElem_cons h, List.any_cons]

theorem all_drop {α : Type} {l : List α} {n : Nat} (h : n < l.length) (q : α → Bool) : (l.drop n).all q = (q l[n] && (l.drop (n + 1)).all q) := by
  rw [List.drop_eq_getElem_cons h, List.all_cons]

theorem dec_false {p : Prop} [Decidable p] (h : ¬ p) : false = decide p := (decide_eq_false h).symm
theorem dec_true {p : Prop} [Decidable p] (h : p) : true = decide p := (decide_eq_true h).symm
theorem dec_iff {p q : Prop} [Decidable p] [Decidable q] (h : p ↔ q) : decide p = decide q := decide_eq_decide.2 h

theorem FnExactTreeNew : laws_FnExactTreeNew.Pure := by
  intro a0 _
  have hs : ∃ d : Int, spec_TreeNew.f a0 = some (d, 0, 0, 0, [], []) ∧ impl_TreeNew.f a0 = some (d, 0, 0, 0, [], []) := by
    by_cases h0 : a0 ≥ 0
    · by_cases h1 : a0 ≤ 10000000
      · exact ⟨a0, by simp [spec_TreeNew.f, spec_FairNew.f, spec_l13Delta.f, h0, h1], by simp [impl_TreeNew.f, impl_FairNew.f, impl_isDelta.f, impl_within.f, h0, h1]⟩
      · exact ⟨0, by simp [spec_TreeNew.f, spec_FairNew.f, spec_l13Delta.f, h0, h1], by simp [impl_TreeNew.f, impl_FairNew.f, impl_isDelta.f, impl_within.f, h0, h1]⟩
    · exact ⟨0, by simp [spec_TreeNew.f, spec_FairNew.f, spec_l13Delta.f, h0], by simp [impl_TreeNew.f, impl_FairNew.f, impl_isDelta.f, impl_within.f, h0]⟩
  obtain ⟨d, hs, hi⟩ := hs
  refine ⟨3, ?_⟩
  unfold laws_FnExactTreeNew.f
  rw [hs, hi]
  simp [laws_eqTree.f, laws_eqFair.f, laws_eqVec.f, laws_eqKidS.f, laws_eqKidS.l0, laws_eqBranchS.f, laws_eqBranchS.l0, laws_markTree.f, laws_markFair.f, laws_markKidS.f, laws_markKidS.l0, laws_markBranchS.f, laws_markBranchS.l0, laws_heldTree.f, laws_heldFair.f, laws_heldKidS.f, laws_heldKidS.l0, laws_heldBranchS.f, laws_heldBranchS.l0]

end Go.Proofs.Ytjeigejjndfkjaa.Pure
