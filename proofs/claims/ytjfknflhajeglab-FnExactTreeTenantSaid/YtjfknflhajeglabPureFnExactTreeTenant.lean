/- The program's TreeTenant returns what the reference's TreeTenant returns, for every tree and every two ints (trees of which the law's own count speaks: any other answers true at once); it writes into nothing that came in, and its answer's memory is its own. No condition. -/
import Derived.Test.YtjfknflhajeglabPFnExactTreeTenantx20
namespace Go.Proofs.Ytjfknflhajeglab.Pure
open Go.RowKit Go.Proofs.Ytjfknflhajeglab.PFnExactTreeTenant Go.Proofs.YtjfknflhajeglabW.PrintWords Go.Proofs.YtjfknflhajeglabW.PrintLast Go.Proofs.YtjfknflhajeglabW.PrintMore Go.Proofs.YtjfknflhajeglabV
set_option linter.unusedVariables false
set_option linter.unusedSimpArgs false

theorem down {N : Nat} {P : Nat → Prop} (h0 : P N) (hs : ∀ n, n < N → P (n + 1) → P n) : ∀ n, n ≤ N → P n := by
  intro n hn
  obtain ⟨d, rfl⟩ : ∃ d, N = n + d := ⟨N - n, by omega⟩
  clear hn
  induction d generalizing n with
  | zero => exact h0
  | succ d ih => exact hs n (by omega) (ih (n + 1) (by rw [show n + 1 + d = n + (d + 1) by omega]; exact h0) (fun m hm hp => hs m (by omega) hp))

theorem wrap_id {x : Int} (h1 : -9223372036854775808 ≤ x) (h2 : x ≤ 9223372036854775807) : wrap64 x = x := by
  unfold wrap64; omega

theorem wrap_succ {n : Nat} (h : n < 4611686018427387904) : wrap64 ((n : Int) + 1) = ((n + 1 : Nat) : Int) := by
  rw [wrap_id (by omega) (by omega)]; omega

theorem wrap_pred {n : Nat} (h0 : 0 < n) (h : n < 4611686018427387904) : wrap64 ((n : Int) - 1) = ((n - 1 : Nat) : Int) := by
  rw [wrap_id (by omega) (by omega)]; omega

theorem getD_lt {α : Type} {l : List α} {n : Nat} (d : α) (h : n < l.length) : l.getD n d = l[n] := by
  rw [List.getD_eq_getElem?_getD, List.getElem?_eq_getElem h]; rfl

theorem rd_nat (l : List Int) (n : Nat) : rd l (n : Int) = l.getD n 0 := by
  unfold rd; simp

theorem Ev.now' {α : Type} {g : Nat → Option α} {r : α} (h : ∀ k, g k = some r) : Ev g r := ⟨0, fun k _ => h k⟩

/-- One round, and what follows. -/
theorem Ev.next {α : Type} {g f : Nat → Option α} {r : α} (k : Ev f r) (h : ∀ k, g (k + 1) = f k) : Ev g r := Ev.step h k

theorem Ev.to {α : Type} {g : Nat → Option α} {r q : α} (h : Ev g r) (e : r = q) : Ev g q := e ▸ h

theorem list_drop_cons {α : Type} {l : List α} {n : Nat} (h : n < l.length) : l.drop n = l[n] :: l.drop (n + 1) := List.drop_eq_getElem_cons h

theorem mem_drop {α : Type} {l : List α} {n : Nat} (h : n < l.length) {x : α} : x ∈ l.drop n ↔ x = l[n] ∨ x ∈ l.drop (n + 1) := by
  rw [List.drop_eq_getElem_cons h, List.mem_cons]

theorem any_drop {α : Type} {l : List α} {n : Nat} (h : n < l.length) (q : α → Bool) : (l.drop n).any q = (q l[n] || (l.drop (n + 1)).any q) := by
  rw [List.drop_eq_getElem_cons h, List.any_cons]

theorem all_drop {α : Type} {l : List α} {n : Nat} (h : n < l.length) (q : α → Bool) : (l.drop n).all q = (q l[n] && (l.drop (n + 1)).all q) := by
  rw [List.drop_eq_getElem_cons h, List.all_cons]

theorem dec_false {p : Prop} [Decidable p] (h : ¬ p) : false = decide p := (decide_eq_false h).symm
theorem dec_true {p : Prop} [Decidable p] (h : p) : true = decide p := (decide_eq_true h).symm
theorem dec_iff {p q : Prop} [Decidable p] [Decidable q] (h : p ↔ q) : decide p = decide q := decide_eq_decide.2 h

theorem rdLK_nat (l : List S89) (n : Nat) (h : n < l.length) : rd_T89 l (n : Int) = l[n] := by
  unfold rd_T89; rw [Int.toNat_natCast, getD_lt _ h]
theorem rdK_nat (l : List S51) (n : Nat) (h : n < l.length) : rd_T51 l (n : Int) = l[n] := by
  unfold rd_T51; rw [Int.toNat_natCast, getD_lt _ h]
theorem rdLB_nat (l : List S67) (n : Nat) (h : n < l.length) : rd_T67 l (n : Int) = l[n] := by
  unfold rd_T67; rw [Int.toNat_natCast, getD_lt _ h]
theorem rdB_nat (l : List S54) (n : Nat) (h : n < l.length) : rd_T54 l (n : Int) = l[n] := by
  unfold rd_T54; rw [Int.toNat_natCast, getD_lt _ h]

/-- The program's own types. -/
def toK (x : S89) : S51 := ⟨x.f0, x.f1, x.f2, ⟨x.f3.f0, x.f3.f1, x.f3.f2⟩⟩
def toF (x : S26) : S34 := ⟨x.f0, ⟨x.f1.f0, x.f1.f1, x.f1.f2⟩, x.f2.map toK⟩
def toB (x : S67) : S54 := ⟨x.f0, toF x.f1⟩

theorem szKids_eq (l : List S89) (a : Int) (hl : l.length ≤ maxLen) (h0 : 0 ≤ a) (h1 : a ≤ 1048576) : laws_szKidS.f l a = some (if a < l.length then -1 else a - l.length) := by
  have hm : maxLen = 9223372036854775807 := rfl
  unfold laws_szKidS.f
  rw [wrap_id (by omega) (by omega)]
  by_cases h : a < l.length
  · rw [if_pos (by omega), if_pos h]
  · rw [if_neg (by omega), if_neg h]

theorem szFair_eq (a0 a1 a2 a3 : Int) (l : List S89) (a : Int) (hl : l.length ≤ maxLen) (h0 : 0 ≤ a) (h1 : a ≤ 1048576) : laws_szFair.f a0 a1 a2 a3 l a = some (if a < l.length then -1 else a - l.length) := by
  unfold laws_szFair.f
  rw [szKids_eq l a hl h0 h1]
  by_cases h : a < l.length
  · rw [if_pos h]; rfl
  · rw [if_neg h]; simp only [Option.bind_some]; rw [if_neg (by omega)]

theorem szBranch_eq (a0 a1 a2 a3 a4 : Int) (l : List S89) (a : Int) (hl : l.length ≤ maxLen) (h0 : 0 ≤ a) (h1 : a ≤ 1048576) : laws_szBranch.f a0 a1 a2 a3 a4 l a = some (if a < l.length then -1 else a - l.length) := by
  unfold laws_szBranch.f
  rw [szFair_eq a1 a2 a3 a4 l a hl h0 h1]
  by_cases h : a < l.length
  · rw [if_pos h]; rfl
  · rw [if_neg h]; simp only [Option.bind_some]; rw [if_neg (by omega)]

theorem szBranches_loop (l : List S67) (hl : l.length ≤ 1048576) (hx : ∀ x ∈ l, x.f1.f2.length ≤ maxLen) : ∀ n, n ≤ l.length → ∀ a : Int, 0 ≤ a → a ≤ 1048576 →
    ∃ s, Ev (fun k => laws_szBranchS.l0 k l a (n : Int)) s ∧ (s < 0 ∨ ∀ x ∈ l.drop n, x.f1.f2.length ≤ 1048576) := by
  refine down ?_ ?_
  · intro a h0 h1
    refine ⟨a, Ev.next (f := fun _ => some a) (Ev.now a) fun k => ?_, .inr (by simp)⟩
    simp only [laws_szBranchS.l0]; rw [if_neg (by omega)]
  · intro n hn ih a h0 h1
    have hxn : l[n].f1.f2.length ≤ maxLen := hx _ (List.getElem_mem hn)
    by_cases h : a < l[n].f1.f2.length
    · refine ⟨-1, Ev.next (f := fun _ => some (-1)) (Ev.now _) fun k => ?_, .inl (by omega)⟩
      simp only [laws_szBranchS.l0]
      rw [if_pos (by omega), if_pos (by omega), rdLB_nat l n hn, szBranch_eq _ _ _ _ _ _ _ hxn h0 h1, if_pos h]
      rfl
    · obtain ⟨s, hs, hd⟩ := ih (a - l[n].f1.f2.length) (by omega) (by omega)
      refine ⟨s, Ev.next hs fun k => ?_, hd.imp id fun hd x hx => ?_⟩
      · simp only [laws_szBranchS.l0]
        rw [if_pos (by omega), if_pos (by omega), rdLB_nat l n hn, szBranch_eq _ _ _ _ _ _ _ hxn h0 h1, if_neg h]
        simp only [Option.bind_some]
        rw [if_neg (by omega), wrap_succ (by omega)]
      · rw [List.drop_eq_getElem_cons hn] at hx
        rcases List.mem_cons.1 hx with rfl | hx
        · omega
        · exact hd x hx

/-- What the law's own count lets in. -/
def TreeSz (k : List S89) (b : List S67) : Prop := k.length ≤ 1048576 ∧ b.length ≤ 1048576 ∧ ∀ x ∈ b, x.f1.f2.length ≤ 1048576

theorem szTree_ev (y : S29) (hy : OK29 y) : ∃ s, Ev (fun k => laws_szTree.f k y.f0.f0 y.f0.f1.f0 y.f0.f1.f1 y.f0.f1.f2 y.f0.f2 y.f1 1048576) s ∧ (s < 0 ∨ TreeSz y.f0.f2 y.f1) := by
  have hm : maxLen = 9223372036854775807 := rfl
  have h1 : y.f0.f2.length ≤ maxLen := hy.1.2.2.1
  have h2 : y.f1.length ≤ maxLen := hy.2.1
  have h3 : ∀ x ∈ y.f1, x.f1.f2.length ≤ maxLen := fun x hx => (hy.2.2 x hx).2.2.2.1
  unfold laws_szTree.f
  simp only [szFair_eq _ _ _ _ _ (1048576 : Int) h1 (by omega) (by omega), Option.bind_some]
  by_cases h : (1048576 : Int) < y.f0.f2.length
  · simp only [if_pos h]
    exact ⟨-1, Ev.now' fun k => rfl, .inl (by omega)⟩
  · simp only [if_neg h, if_neg (show ¬ (1048576 - (y.f0.f2.length : Int)) < 0 by omega)]
    by_cases hb : (1048576 - (y.f0.f2.length : Int)) < y.f1.length
    · refine ⟨-1, Ev.now' fun k => ?_, .inl (by omega)⟩
      unfold laws_szBranchS.f
      rw [wrap_id (by omega) (by omega), if_pos (by omega)]; rfl
    · obtain ⟨s, hs, hd⟩ := szBranches_loop y.f1 (by omega) h3 0 (by omega) (1048576 - (y.f0.f2.length : Int) - (y.f1.length : Int)) (by omega) (by omega)
      have hf : Ev (fun k => laws_szBranchS.f k y.f1 (1048576 - (y.f0.f2.length : Int))) s := by
        refine Ev.congr (fun k => ?_) hs
        unfold laws_szBranchS.f
        rw [wrap_id (by omega) (by omega), if_neg (by omega)]; rfl
      by_cases hs0 : s < 0
      · exact ⟨-1, Ev.bind hf (f := fun _ t => if t < 0 then some (-1) else some t) (Ev.now' fun k => if_pos hs0), .inl (by omega)⟩
      · refine ⟨s, Ev.bind hf (f := fun _ t => if t < 0 then some (-1) else some t) (Ev.now' fun k => if_neg hs0), hd.imp id fun hd => ⟨by omega, by omega, by simpa using hd⟩⟩

theorem take_set_next {α : Type} {l m : List α} {n : Nat} {x : α} (hl : n < l.length) (hm : m.length = n) (h : l.take n = m) : (l.set n x).take (n + 1) = m ++ [x] := by
  rw [List.take_set, List.take_add_one, h, List.getElem?_eq_getElem hl]
  simp only [Option.toList_some]
  rw [List.set_append_right _ _ (by omega), hm]
  simp

theorem map_take_next {α β : Type} (f : α → β) {l : List α} {n : Nat} (hn : n < l.length) : (l.take (n + 1)).map f = (l.take n).map f ++ [f l[n]] := by
  rw [List.take_add_one, List.getElem?_eq_getElem hn, List.map_append]; rfl

theorem toKids_loop (l : List S89) (hl : l.length ≤ 1048576) : ∀ n, n ≤ l.length → ∀ acc : List S51, acc.length = l.length → acc.take n = (l.take n).map toK →
    Ev (fun k => laws_toKidS.l0 k l acc (n : Int)) (l.map toK) := by
  refine down ?_ ?_
  · intro acc ha ht
    have e : acc = l.map toK := by rw [List.take_of_length_le (by omega), List.take_of_length_le (by omega)] at ht; exact ht
    subst e
    refine Ev.next (f := fun _ => some (l.map toK)) (Ev.now _) fun k => ?_
    simp only [laws_toKidS.l0]; rw [if_neg (by omega)]
  · intro n hn ih acc ha ht
    refine Ev.next (ih (acc.set n (toK l[n])) (by simpa using ha) ?_) fun k => ?_
    · rw [map_take_next toK hn]
      exact take_set_next (by omega) (by rw [List.length_map, List.length_take]; omega) ht
    · simp only [laws_toKidS.l0, laws_toKid.f, laws_toVec.f, Option.bind_some]
      rw [if_pos (by omega), if_pos (by omega), if_pos (by omega), rdLK_nat l n hn, wrap_succ (by omega), Int.toNat_natCast]
      rfl

theorem toKids_ev (l : List S89) (hl : l.length ≤ 1048576) : Ev (fun k => laws_toKidS.f k l) (l.map toK) := by
  refine Ev.congr (fun k => ?_) (toKids_loop l hl 0 (by omega) (List.replicate l.length z51) (by simp) (by simp))
  unfold laws_toKidS.f
  rw [if_pos (by omega), if_pos (by omega)]
  simp

theorem toFair_ev (a0 a1 a2 a3 : Int) (l : List S89) (hl : l.length ≤ 1048576) : Ev (fun k => laws_toFair.f k a0 a1 a2 a3 l) (a0, a1, a2, a3, l.map toK) := by
  unfold laws_toFair.f laws_toVec.f
  simp only [Option.bind_some]
  exact Ev.bind (toKids_ev l hl) (f := fun _ t => some (a0, a1, a2, a3, t)) (Ev.now _)

theorem toBranches_loop (l : List S67) (hl : l.length ≤ 1048576) (hx : ∀ x ∈ l, x.f1.f2.length ≤ 1048576) : ∀ n, n ≤ l.length → ∀ acc : List S54, acc.length = l.length → acc.take n = (l.take n).map toB →
    Ev (fun k => laws_toBranchS.l0 k l acc (n : Int)) (l.map toB) := by
  refine down ?_ ?_
  · intro acc ha ht
    have e : acc = l.map toB := by rw [List.take_of_length_le (by omega), List.take_of_length_le (by omega)] at ht; exact ht
    subst e
    refine Ev.next (f := fun _ => some (l.map toB)) (Ev.now _) fun k => ?_
    simp only [laws_toBranchS.l0]; rw [if_neg (by omega)]
  · intro n hn ih acc ha ht
    have hxn : l[n].f1.f2.length ≤ 1048576 := hx _ (List.getElem_mem hn)
    have h1 : Ev (fun k => laws_toBranch.f k l[n].f0 l[n].f1.f0 l[n].f1.f1.f0 l[n].f1.f1.f1 l[n].f1.f1.f2 l[n].f1.f2) (l[n].f0, l[n].f1.f0, l[n].f1.f1.f0, l[n].f1.f1.f1, l[n].f1.f1.f2, l[n].f1.f2.map toK) := by
      unfold laws_toBranch.f
      exact Ev.bind (toFair_ev _ _ _ _ _ hxn) (f := fun _ bt => some (l[n].f0, bt.1, bt.2.1, bt.2.2.1, bt.2.2.2.1, bt.2.2.2.2)) (Ev.now _)
    refine Ev.next (Ev.bind h1 (f := fun k bt => laws_toBranchS.l0 k l (acc.set n (⟨bt.1, (⟨bt.2.1, (⟨bt.2.2.1, bt.2.2.2.1, bt.2.2.2.2.1⟩ : S31), bt.2.2.2.2.2⟩ : S34)⟩ : S54)) ((n + 1 : Nat) : Int)) (ih (acc.set n (toB l[n])) (by simpa using ha) ?_)) fun k => ?_
    · rw [map_take_next toB hn]
      exact take_set_next (by omega) (by rw [List.length_map, List.length_take]; omega) ht
    · simp only [laws_toBranchS.l0]
      rw [if_pos (by omega), if_pos (by omega), rdLB_nat l n hn]
      simp only [if_pos (show (n : Int) < (acc.length : Int) by omega), wrap_succ (show n < 4611686018427387904 by omega), Int.toNat_natCast]

theorem toBranches_ev (l : List S67) (hl : l.length ≤ 1048576) (hx : ∀ x ∈ l, x.f1.f2.length ≤ 1048576) : Ev (fun k => laws_toBranchS.f k l) (l.map toB) := by
  refine Ev.congr (fun k => ?_) (toBranches_loop l hl hx 0 (by omega) (List.replicate l.length z54) (by simp) (by simp))
  unfold laws_toBranchS.f
  rw [if_pos (by omega), if_pos (by omega)]
  simp

theorem toTree_ev (y : S29) (hs : TreeSz y.f0.f2 y.f1) : Ev (fun k => laws_toTree.f k y.f0.f0 y.f0.f1.f0 y.f0.f1.f1 y.f0.f1.f2 y.f0.f2 y.f1) (y.f0.f0, y.f0.f1.f0, y.f0.f1.f1, y.f0.f1.f2, y.f0.f2.map toK, y.f1.map toB) := by
  unfold laws_toTree.f
  refine Ev.bind (toFair_ev _ _ _ _ _ hs.1) ?_
  exact Ev.bind (toBranches_ev _ hs.2.1 hs.2.2) (f := fun _ t => some (y.f0.f0, y.f0.f1.f0, y.f0.f1.f1, y.f0.f1.f2, y.f0.f2.map toK, t)) (Ev.now _)

theorem eqKid_eq (a b : Int) (c : Bool) (d e f : Int) : laws_eqKid.f a b c d e f a b c d e f = some true := by
  simp [laws_eqKid.f, laws_eqVec.f]

theorem eqKids_loop (l : List S51) (hl : l.length ≤ 1048576) : ∀ n, n ≤ l.length → Ev (fun k => laws_eqKidS.l0 k l l (n : Int)) true := by
  refine down ?_ ?_
  · refine Ev.next (f := fun _ => some true) (Ev.now true) fun k => ?_
    simp only [laws_eqKidS.l0]; rw [if_neg (by omega)]
  · intro n hn ih
    refine Ev.next ih fun k => ?_
    simp only [laws_eqKidS.l0]
    rw [if_pos (by omega), if_pos (by omega), if_pos (by omega), eqKid_eq, wrap_succ (by omega)]
    simp only [Option.bind_some, if_true]

theorem eqKids_ev (l : List S51) (hl : l.length ≤ 1048576) : Ev (fun k => laws_eqKidS.f k l l) true := by
  refine Ev.congr (fun k => ?_) (eqKids_loop l hl 0 (by omega))
  unfold laws_eqKidS.f
  rw [if_pos rfl]; rfl

theorem eqFair_ev (a0 a1 a2 a3 : Int) (l : List S51) (hl : l.length ≤ 1048576) : Ev (fun k => laws_eqFair.f k a0 a1 a2 a3 l a0 a1 a2 a3 l) true := by
  unfold laws_eqFair.f laws_eqVec.f
  simp only [if_true, Option.bind_some]
  exact Ev.bind (eqKids_ev l hl) (f := fun _ t => if t = true then some true else some false) (Ev.now _)

theorem eqBranches_loop (l : List S54) (hl : l.length ≤ 1048576) (hx : ∀ x ∈ l, x.f1.f2.length ≤ 1048576) : ∀ n, n ≤ l.length → Ev (fun k => laws_eqBranchS.l0 k l l (n : Int)) true := by
  refine down ?_ ?_
  · refine Ev.next (f := fun _ => some true) (Ev.now true) fun k => ?_
    simp only [laws_eqBranchS.l0]; rw [if_neg (by omega)]
  · intro n hn ih
    have hxn : l[n].f1.f2.length ≤ 1048576 := hx _ (List.getElem_mem hn)
    have h1 : Ev (fun k => laws_eqBranch.f k l[n].f0 l[n].f1.f0 l[n].f1.f1.f0 l[n].f1.f1.f1 l[n].f1.f1.f2 l[n].f1.f2 l[n].f0 l[n].f1.f0 l[n].f1.f1.f0 l[n].f1.f1.f1 l[n].f1.f1.f2 l[n].f1.f2) true := by
      unfold laws_eqBranch.f
      simp only [if_true]
      exact Ev.bind (eqFair_ev _ _ _ _ _ hxn) (f := fun _ t => if t = true then some true else some false) (Ev.now _)
    refine Ev.next (Ev.bind h1 (f := fun k t => if t = true then laws_eqBranchS.l0 k l l ((n + 1 : Nat) : Int) else some false) ih) fun k => ?_
    simp only [laws_eqBranchS.l0]
    rw [if_pos (by omega), if_pos (by omega), if_pos (by omega), rdB_nat l n hn, wrap_succ (by omega)]

theorem eqBranches_ev (l : List S54) (hl : l.length ≤ 1048576) (hx : ∀ x ∈ l, x.f1.f2.length ≤ 1048576) : Ev (fun k => laws_eqBranchS.f k l l) true := by
  refine Ev.congr (fun k => ?_) (eqBranches_loop l hl hx 0 (by omega))
  unfold laws_eqBranchS.f
  rw [if_pos rfl]; rfl

theorem eqTree_ev (a0 a1 a2 a3 : Int) (l : List S51) (b : List S54) (hl : l.length ≤ 1048576) (hb : b.length ≤ 1048576) (hx : ∀ x ∈ b, x.f1.f2.length ≤ 1048576) : Ev (fun k => laws_eqTree.f k a0 a1 a2 a3 l b a0 a1 a2 a3 l b) true := by
  unfold laws_eqTree.f
  refine Ev.bind (eqFair_ev _ _ _ _ _ hl) ?_
  simp only [if_true]
  exact Ev.bind (eqBranches_ev _ hb hx) (f := fun _ t => if t = true then some true else some false) (Ev.now _)

theorem toB_len {l : List S67} (hx : ∀ x ∈ l, x.f1.f2.length ≤ 1048576) : ∀ x ∈ l.map toB, x.f1.f2.length ≤ 1048576 := by
  intro x h
  obtain ⟨y, hy, rfl⟩ := List.mem_map.1 h
  simpa [toB, toF] using hx y hy

theorem within_eq (a b c : Int) : impl_within.f a b c = some (decide (b ≤ a ∧ a ≤ c)) := by
  unfold impl_within.f
  by_cases h : a ≥ b
  · rw [if_pos h]; congr 1; simp; omega
  · rw [if_neg h]; congr 1; simp; omega

/-- Is each of the three from lo to hi? -/
def vFrom (a b c lo hi : Int) : Bool := decide ((lo ≤ a ∧ a ≤ hi) ∧ (lo ≤ b ∧ b ≤ hi) ∧ (lo ≤ c ∧ c ≤ hi))

theorem sAll_eq (a b c lo hi : Int) : spec_l13All.f a b c lo hi = some (vFrom a b c lo hi) := by
  unfold spec_l13All.f vFrom
  repeat' split
  all_goals (congr 1; first | exact dec_iff (by omega) | exact dec_false (by omega) | exact dec_true (by omega))

theorem iFrom_eq (a b c lo hi : Int) : impl_Vec_isFrom.f a b c lo hi = some (vFrom a b c lo hi) := by
  unfold impl_Vec_isFrom.f vFrom
  simp only [within_eq, Option.bind_some, decide_eq_true_eq]
  repeat' split
  all_goals (congr 1; first | exact dec_iff (by omega) | exact dec_false (by omega) | exact dec_true (by omega))

/-- Is a tag's spread at most the delta? -/
def narrowM (a b c d : Int) : Bool := vFrom a b c 0 1000000000000 && (decide (0 ≤ d ∧ d ≤ 10000000) && decide (mx (mx a b) c - d ≤ a ∧ mx (mx a b) c - d ≤ b ∧ mx (mx a b) c - d ≤ c))

theorem mx_cases (a b : Int) : (mx a b = a ∧ b ≤ a) ∨ (mx a b = b ∧ a < b) := by
  unfold mx; by_cases h : a < b
  · rw [if_pos h]; exact .inr ⟨rfl, h⟩
  · rw [if_neg h]; exact .inl ⟨rfl, by omega⟩
theorem mn_cases (a b : Int) : (mn a b = a ∧ a ≤ b) ∨ (mn a b = b ∧ b < a) := by
  unfold mn; by_cases h : b < a
  · rw [if_pos h]; exact .inr ⟨rfl, h⟩
  · rw [if_neg h]; exact .inl ⟨rfl, by omega⟩

theorem sNarrow_eq (a b c d : Int) : spec_Narrow.f a b c d = some (narrowM a b c d) := by
  unfold spec_Narrow.f spec_TagOk.f spec_l13Delta.f spec_VecTop.f narrowM
  simp only [sAll_eq, Option.bind_some]
  cases hv : vFrom a b c 0 1000000000000 with
  | false => simp
  | true =>
    have hv' : (0 ≤ a ∧ a ≤ 1000000000000) ∧ (0 ≤ b ∧ b ≤ 1000000000000) ∧ (0 ≤ c ∧ c ≤ 1000000000000) := by simpa [vFrom] using hv
    by_cases h1 : d ≥ 0
    · by_cases h2 : d ≤ 10000000
      · have c1 := mx_cases a b
        have c2 := mx_cases (mx a b) c
        have c3 := mn_cases a b
        have c4 := mn_cases (mn a b) c
        have hw : wrap64 (mx (mx a b) c - d) = mx (mx a b) c - d := wrap_id (by omega) (by omega)
        simp only [if_true, if_pos h1, Option.bind_some, h2, decide_true, hw, decide_eq_true (show 0 ≤ d ∧ True from ⟨h1, trivial⟩), Bool.true_and]
        congr 1
        exact dec_iff (by omega)
      · simp only [if_true, if_pos h1, Option.bind_some, decide_eq_false h2, decide_eq_false (show ¬ (0 ≤ d ∧ d ≤ 10000000) by omega), Bool.false_and, Bool.and_false, if_neg (show ¬ (false = true) by decide)]
    · simp only [if_true, if_neg h1, Option.bind_some, decide_eq_false (show ¬ (0 ≤ d ∧ d ≤ 10000000) by omega), Bool.false_and, Bool.and_false, if_neg (show ¬ (false = true) by decide)]

theorem iNarrow_eq (a b c d : Int) : impl_Narrow.f a b c d = some (narrowM a b c d) := by
  unfold impl_Narrow.f impl_TagOk.f impl_isDelta.f impl_VecTop.f narrowM
  simp only [iFrom_eq, within_eq, Option.bind_some]
  cases hv : vFrom a b c 0 1000000000000 with
  | false => simp
  | true =>
    have hv' : (0 ≤ a ∧ a ≤ 1000000000000) ∧ (0 ≤ b ∧ b ≤ 1000000000000) ∧ (0 ≤ c ∧ c ≤ 1000000000000) := by simpa [vFrom] using hv
    by_cases h1 : 0 ≤ d ∧ d ≤ 10000000
    · have c1 := mx_cases a b
      have c2 := mx_cases (mx a b) c
      have hw : wrap64 (mx (mx a b) c - d) = mx (mx a b) c - d := wrap_id (by omega) (by omega)
      simp only [if_true, decide_eq_true h1, hw, Bool.true_and]
      congr 1
      unfold vFrom
      exact dec_iff (by omega)
    · simp only [if_true, decide_eq_false h1, Bool.false_and, Bool.and_false, if_neg (show ¬ (false = true) by decide)]

theorem wrap_stride (b : Int) (h0 : 1 ≤ b) : wrap64 (Int.tdiv 2520 b) = 2520 / b := by
  have e : Int.tdiv 2520 b = 2520 / b := Int.tdiv_eq_ediv_of_nonneg (by omega)
  have h1 : 0 ≤ 2520 / b := Int.ediv_nonneg (by omega) (by omega)
  have h2 : 2520 / b ≤ 2520 := Int.ediv_le_self _ (by omega)
  rw [e, wrap_id (by omega) (by omega)]

/-- The stride of a weight. -/
def stride (b : Int) : Int := if 1 ≤ b ∧ b ≤ 10 then 2520 / b else 0

theorem sStride_eq (b : Int) : spec_Stride.f b = some (stride b) := by
  unfold spec_Stride.f stride
  by_cases h1 : b < 1
  · rw [if_pos h1, if_neg (by omega)]
  · rw [if_neg h1]
    by_cases h2 : b > 10
    · rw [if_pos h2, if_neg (by omega)]
    · rw [if_neg h2, if_neg (by omega), if_pos (by omega), wrap_stride b (by omega)]

theorem stride_pos {b : Int} (h : 1 ≤ b ∧ b ≤ 10) : 252 ≤ stride b ∧ stride b ≤ 2520 := by
  unfold stride
  rw [if_pos h]
  constructor
  · rw [Int.le_ediv_iff_mul_le (by omega)]; omega
  · exact Int.ediv_le_self _ (by omega)

theorem stride_zero (b : Int) : stride b = 0 ↔ ¬ (1 ≤ b ∧ b ≤ 10) := by
  by_cases h : 1 ≤ b ∧ b ≤ 10
  · have := stride_pos h
    constructor
    · intro h2; omega
    · intro h2; exact absurd h h2
  · unfold stride; simp [h]

theorem stride_bd (b : Int) : 0 ≤ stride b ∧ stride b ≤ 2520 := by
  by_cases h : 1 ≤ b ∧ b ≤ 10
  · have := stride_pos h; omega
  · have := (stride_zero b).2 h; omega

theorem isWeight_eq (b : Int) : impl_isWeight.f b = some (decide (1 ≤ b ∧ b ≤ 10)) := by
  unfold impl_isWeight.f; rw [within_eq]; rfl

theorem iStride_eq (b : Int) : impl_Stride.f b = some (stride b) := by
  unfold impl_Stride.f stride
  rw [isWeight_eq]
  by_cases h : 1 ≤ b ∧ b ≤ 10
  · simp only [Option.bind_some, decide_eq_true h, if_true, if_pos h]
    rw [if_neg (by omega), wrap_stride b (by omega)]
  · simp only [Option.bind_some, decide_eq_false h, if_neg h]
    rfl

abbrev topK (x : S51) : Int := mx (mx x.f3.f0 x.f3.f1) x.f3.f2
def kid1 (a : Int) (x : S51) : Bool := decide (0 ≤ x.f0 ∧ x.f0 ≤ 9999) && (decide (1 ≤ x.f1 ∧ x.f1 ≤ 10) && narrowM x.f3.f0 x.f3.f1 x.f3.f2 a)
def kid2 (t : Int) (x : S51) : Bool := decide (topK x ≤ wrap64 (t + wrap64 (stride x.f1 * 2000))) && (!x.f2 || decide (t ≤ topK x))
def ordAt (L : List S51) (n : Nat) : Bool := decide (n = 0) || decide ((L.getD (n - 1) z51).f0 < (L.getD n z51).f0)
def kidAt (a t : Int) (L : List S51) (n : Nat) : Bool := kid1 a (L.getD n z51) && (kid2 t (L.getD n z51) && ordAt L n)
def kidsFrom (a t : Int) (L : List S51) : Nat → Nat → Bool
  | 0, _ => true
  | d + 1, n => kidAt a t L n && kidsFrom a t L d (n + 1)
def fairM (a b c d : Int) (L : List S51) : Bool := narrowM b c d a && (decide (mx (mx b c) d ≤ 100000000000) && (decide (L.length ≤ 48) && kidsFrom a (mx (mx b c) d) L L.length 0))

theorem sFair_j2 (a b c d : Int) (L : List S51) (n : Int) (x : S51) (r : Bool) (hr : Ev (fun k => spec_FairOk.l0 k (wrap64 (n + 1)) a b c d L) r) (t : Bool) :
    Ev (fun k => spec_FairOk.j2 k n t a b c d L x.f0 x.f1 x.f2 x.f3.f0 x.f3.f1 x.f3.f2) (!t && (kid2 (mx (mx b c) d) x && r)) := by
  cases t with
  | true => exact Ev.next (f := fun _ => some false) (Ev.now _) fun k => by simp [spec_FairOk.j2]
  | false =>
    by_cases h1 : topK x > wrap64 (mx (mx b c) d + wrap64 (stride x.f1 * 2000))
    · refine Ev.to (Ev.next (f := fun _ => some false) (Ev.now _) fun k => ?_) ?_
      · simp only [spec_FairOk.j2, spec_VecTop.f, sStride_eq, Option.bind_some]; rw [if_neg (by decide), if_pos h1]
      · unfold kid2; rw [decide_eq_false (by omega)]; simp
    · cases hb : x.f2 with
      | false =>
        refine Ev.to (Ev.next hr fun k => ?_) ?_
        · simp only [spec_FairOk.j2, spec_VecTop.f, sStride_eq, Option.bind_some]; rw [if_neg (by decide), if_neg h1, if_neg (by decide)]
        · unfold kid2; rw [hb, decide_eq_true (by omega)]; simp
      | true =>
        by_cases h2 : topK x < mx (mx b c) d
        · refine Ev.to (Ev.next (f := fun _ => some false) (Ev.now _) fun k => ?_) ?_
          · simp only [spec_FairOk.j2, spec_VecTop.f, sStride_eq, Option.bind_some]; rw [if_neg (by decide), if_neg h1, if_pos trivial, if_pos h2]
          · unfold kid2; rw [hb, decide_eq_false (show ¬ mx (mx b c) d ≤ topK x by omega)]; simp
        · refine Ev.to (Ev.next hr fun k => ?_) ?_
          · simp only [spec_FairOk.j2, spec_VecTop.f, sStride_eq, Option.bind_some]; rw [if_neg (by decide), if_neg h1, if_pos trivial, if_neg h2]
          · unfold kid2; rw [hb, decide_eq_true (show mx (mx b c) d ≤ topK x by omega), decide_eq_true (show topK x ≤ _ by omega)]; simp

theorem sFair_loop (a b c d : Int) (L : List S51) (hl : L.length ≤ 1048576) : ∀ m n, n + m = L.length → Ev (fun k => spec_FairOk.l0 k (n : Int) a b c d L) (kidsFrom a (mx (mx b c) d) L m n) := by
  intro m
  induction m with
  | zero =>
    intro n hn
    refine Ev.next (f := fun _ => some _) (Ev.now _) fun k => ?_
    simp only [spec_FairOk.l0]; rw [if_neg (by omega)]; rfl
  | succ m ih =>
    intro n hn
    have hlt : n < L.length := by omega
    have hg : L.getD n z51 = L[n] := getD_lt _ hlt
    have hr := ih (n + 1) (by omega)
    rw [show ((n + 1 : Nat) : Int) = wrap64 ((n : Int) + 1) from (wrap_succ (by omega)).symm] at hr
    have hj := sFair_j2 a b c d L n L[n] _ hr
    simp only [kidsFrom, kidAt, hg, kid1]
    by_cases h1 : L[n].f0 < 0
    · refine Ev.to (Ev.next (hj true) fun k => ?_) (by rw [decide_eq_false (show ¬ (0 ≤ L[n].f0 ∧ L[n].f0 ≤ 9999) by omega)]; simp)
      simp only [spec_FairOk.l0]; rw [if_pos (by omega), if_pos (by omega), rdK_nat L n hlt, if_pos h1]
    by_cases h2 : L[n].f0 > 9999
    · refine Ev.to (Ev.next (hj true) fun k => ?_) (by rw [decide_eq_false (show ¬ (0 ≤ L[n].f0 ∧ L[n].f0 ≤ 9999) by omega)]; simp)
      simp only [spec_FairOk.l0]; rw [if_pos (by omega), if_pos (by omega), rdK_nat L n hlt, if_neg h1, if_pos h2]
    rw [decide_eq_true (show 0 ≤ L[n].f0 ∧ L[n].f0 ≤ 9999 by omega)]
    have hcom : Ev (fun k => (spec_Stride.f L[n].f1).bind fun t148 => if t148 = 0 then spec_FairOk.j2 k (n : Int) true a b c d L L[n].f0 L[n].f1 L[n].f2 L[n].f3.f0 L[n].f3.f1 L[n].f3.f2 else (spec_Narrow.f L[n].f3.f0 L[n].f3.f1 L[n].f3.f2 a).bind fun t149 => spec_FairOk.j2 k (n : Int) (!t149) a b c d L L[n].f0 L[n].f1 L[n].f2 L[n].f3.f0 L[n].f3.f1 L[n].f3.f2)
        (decide (1 ≤ L[n].f1 ∧ L[n].f1 ≤ 10) && (narrowM L[n].f3.f0 L[n].f3.f1 L[n].f3.f2 a && (kid2 (mx (mx b c) d) L[n] && kidsFrom a (mx (mx b c) d) L m (n + 1)))) := by
      simp only [sStride_eq, sNarrow_eq, Option.bind_some]
      by_cases hw : 1 ≤ L[n].f1 ∧ L[n].f1 ≤ 10
      · simp only [if_neg (show ¬ stride L[n].f1 = 0 from fun h => (stride_zero _).1 h hw), decide_eq_true hw]
        exact Ev.to (hj _) (by simp)
      · simp only [if_pos ((stride_zero _).2 hw), decide_eq_false hw]
        exact Ev.to (hj true) (by simp)
    by_cases h0 : n = 0
    · subst h0
      refine Ev.to (Ev.next hcom fun k => ?_) (by unfold ordAt; simp [Bool.and_assoc])
      simp only [spec_FairOk.l0]; rw [if_pos (by omega), if_pos (by omega), rdK_nat L 0 hlt, if_neg h1, if_neg h2, if_neg (by omega)]
    · have hp : L.getD (n - 1) z51 = L[n - 1] := getD_lt _ (by omega)
      by_cases h3 : L[n - 1].f0 ≥ L[n].f0
      · refine Ev.to (Ev.next (hj true) fun k => ?_) (by unfold ordAt; rw [hp, hg, decide_eq_false h0, decide_eq_false (show ¬ L[n - 1].f0 < L[n].f0 by omega)]; simp)
        simp only [spec_FairOk.l0]; rw [if_pos (by omega), if_pos (by omega), rdK_nat L n hlt, if_neg h1, if_neg h2, if_pos (by omega), wrap_pred (by omega) (by omega), if_pos (by omega), if_pos (by omega), rdK_nat L (n - 1) (by omega), if_pos h3]
      · refine Ev.to (Ev.next hcom fun k => ?_) (by unfold ordAt; rw [hp, hg, decide_eq_true (show L[n - 1].f0 < L[n].f0 by omega)]; simp [Bool.and_assoc])
        simp only [spec_FairOk.l0]; rw [if_pos (by omega), if_pos (by omega), rdK_nat L n hlt, if_neg h1, if_neg h2, if_pos (by omega), wrap_pred (by omega) (by omega), if_pos (by omega), if_pos (by omega), rdK_nat L (n - 1) (by omega), if_neg h3]

theorem sFair_ev (a b c d : Int) (L : List S51) (hl : L.length ≤ 1048576) : Ev (fun k => spec_FairOk.f k a b c d L) (fairM a b c d L) := by
  have hj : ∀ t : Bool, Ev (fun k => spec_FairOk.j0 k t a b c d L) (!t && kidsFrom a (mx (mx b c) d) L L.length 0) := by
    intro t
    cases t with
    | true => exact Ev.next (f := fun _ => some false) (Ev.now _) fun k => by simp [spec_FairOk.j0]
    | false => exact Ev.to (Ev.next (sFair_loop a b c d L hl L.length 0 (by omega)) fun k => by simp [spec_FairOk.j0]) (by simp)
  unfold spec_FairOk.f fairM
  simp only [sNarrow_eq, spec_VecTop.f, Option.bind_some]
  cases narrowM b c d a with
  | false => exact Ev.to (hj true) (by simp)
  | true =>
    simp only [if_true]
    by_cases h : mx (mx b c) d > 100000000000
    · simp only [if_pos h]; exact Ev.to (hj true) (by rw [decide_eq_false (show ¬ mx (mx b c) d ≤ 100000000000 by omega)]; simp)
    · simp only [if_neg h]
      refine Ev.to (hj _) ?_
      rw [decide_eq_true (show mx (mx b c) d ≤ 100000000000 by omega)]
      by_cases h2 : L.length ≤ 48
      · rw [decide_eq_false (show ¬ (L.length : Int) > 48 by omega), decide_eq_true h2]; simp
      · rw [decide_eq_true (show (L.length : Int) > 48 by omega), decide_eq_false h2]; simp

theorem iKid_eq (a b c d : Int) (L : List S51) (x : S51) : impl_Fair_kidOk.f a b c d L x.f0 x.f1 x.f2 x.f3.f0 x.f3.f1 x.f3.f2 = some (kid1 a x && kid2 (mx (mx b c) d) x) := by
  unfold impl_Fair_kidOk.f kid1 kid2
  simp only [impl_VecTop.f, impl_isFlow.f, within_eq, isWeight_eq, iNarrow_eq, iStride_eq, Option.bind_some]
  by_cases h1 : 0 ≤ x.f0 ∧ x.f0 ≤ 9999
  · by_cases h2 : 1 ≤ x.f1 ∧ x.f1 ≤ 10
    · cases narrowM x.f3.f0 x.f3.f1 x.f3.f2 a with
      | false => simp
      | true =>
        simp only [decide_eq_true h1, decide_eq_true h2, if_true, Bool.true_and]
        by_cases h3 : topK x ≤ wrap64 (mx (mx b c) d + wrap64 (stride x.f1 * 2000))
        · rw [if_pos h3, decide_eq_true h3]
          cases x.f2 with
          | false => simp
          | true => simp
        · rw [if_neg h3, decide_eq_false h3]; simp
    · simp [h2]
  · simp [h1]

theorem iFair_loop (a b c d : Int) (L : List S51) (hl : L.length ≤ 1048576) : ∀ m n, n + m = L.length → Ev (fun k => impl_FairOk.l0 k L (L.length : Int) (n : Int) a b c d L) (kidsFrom a (mx (mx b c) d) L m n) := by
  intro m
  induction m with
  | zero =>
    intro n hn
    refine Ev.next (f := fun _ => some _) (Ev.now _) fun k => ?_
    simp only [impl_FairOk.l0]; rw [if_neg (by omega)]; rfl
  | succ m ih =>
    intro n hn
    have hlt : n < L.length := by omega
    have hg : L.getD n z51 = L[n] := getD_lt _ hlt
    have hr := ih (n + 1) (by omega)
    rw [show ((n + 1 : Nat) : Int) = wrap64 ((n : Int) + 1) from (wrap_succ (by omega)).symm] at hr
    simp only [kidsFrom, kidAt, hg, ← Bool.and_assoc]
    cases hk : (kid1 a L[n] && kid2 (mx (mx b c) d) L[n]) with
    | false =>
      refine Ev.to (Ev.next (f := fun _ => some false) (Ev.now _) fun k => ?_) (by simp)
      simp only [impl_FairOk.l0]; rw [if_pos (by omega), if_pos (by omega), if_pos (by omega), rdK_nat L n hlt, iKid_eq, hk]; rfl
    | true =>
      by_cases h0 : n = 0
      · subst h0
        refine Ev.to (Ev.next hr fun k => ?_) (by unfold ordAt; simp)
        simp only [impl_FairOk.l0]; rw [if_pos (by omega), if_pos (by omega), if_pos (by omega), rdK_nat L 0 hlt, iKid_eq, hk]; simp only [Option.bind_some, if_true]; rw [if_neg (by omega)]
      · have hp : L.getD (n - 1) z51 = L[n - 1] := getD_lt _ (by omega)
        by_cases h3 : L[n - 1].f0 ≥ L[n].f0
        · refine Ev.to (Ev.next (f := fun _ => some false) (Ev.now _) fun k => ?_) (by unfold ordAt; rw [hp, hg, decide_eq_false h0, decide_eq_false (show ¬ L[n - 1].f0 < L[n].f0 by omega)]; simp)
          simp only [impl_FairOk.l0]; rw [if_pos (by omega), if_pos (by omega), if_pos (by omega), rdK_nat L n hlt, iKid_eq, hk]; simp only [Option.bind_some, if_true]; rw [if_pos (by omega), wrap_pred (by omega) (by omega), if_pos (by omega), if_pos (by omega), rdK_nat L (n - 1) (by omega), if_pos h3]
        · refine Ev.to (Ev.next hr fun k => ?_) (by unfold ordAt; rw [hp, hg, decide_eq_true (show L[n - 1].f0 < L[n].f0 by omega)]; simp)
          simp only [impl_FairOk.l0]; rw [if_pos (by omega), if_pos (by omega), if_pos (by omega), rdK_nat L n hlt, iKid_eq, hk]; simp only [Option.bind_some, if_true]; rw [if_pos (by omega), wrap_pred (by omega) (by omega), if_pos (by omega), if_pos (by omega), rdK_nat L (n - 1) (by omega), if_neg h3]

theorem iFair_ev (a b c d : Int) (L : List S51) (hl : L.length ≤ 1048576) : Ev (fun k => impl_FairOk.f k a b c d L) (fairM a b c d L) := by
  have hj : ∀ t : Bool, Ev (fun k => impl_FairOk.j0 k t a b c d L) (!t && kidsFrom a (mx (mx b c) d) L L.length 0) := by
    intro t
    cases t with
    | true => exact Ev.next (f := fun _ => some false) (Ev.now _) fun k => by simp [impl_FairOk.j0]
    | false => exact Ev.to (Ev.next (iFair_loop a b c d L hl L.length 0 (by omega)) fun k => by simp [impl_FairOk.j0]) (by simp)
  unfold impl_FairOk.f fairM
  simp only [iNarrow_eq, impl_VecTop.f, Option.bind_some]
  cases narrowM b c d a with
  | false => exact Ev.to (hj true) (by simp)
  | true =>
    simp only [if_true]
    by_cases h : mx (mx b c) d > 100000000000
    · simp only [if_pos h]; exact Ev.to (hj true) (by rw [decide_eq_false (show ¬ mx (mx b c) d ≤ 100000000000 by omega)]; simp)
    · simp only [if_neg h]
      refine Ev.to (hj _) ?_
      rw [decide_eq_true (show mx (mx b c) d ≤ 100000000000 by omega)]
      by_cases h2 : L.length ≤ 48
      · rw [decide_eq_false (show ¬ (L.length : Int) > 48 by omega), decide_eq_true h2]; simp
      · rw [decide_eq_true (show (L.length : Int) > 48 by omega), decide_eq_false h2]; simp

/-- The one that is picked next: of those that wait the first with the least tag. -/
def pickStep (L : List S51) (b : Int) (n : Nat) : Int := if (L.getD n z51).f2 = true then (if b < 0 then (n : Int) else if topK (L.getD n z51) < topK (rd_T51 L b) then (n : Int) else b) else b
def pickFrom (L : List S51) : Nat → Nat → Int → Int
  | 0, _, b => b
  | d + 1, n, b => pickFrom L d (n + 1) (pickStep L b n)
def pickM (L : List S51) : Int := pickFrom L L.length 0 (-1)

theorem pickStep_lt {L : List S51} {b : Int} {n : Nat} (hb : b < L.length) (hn : n < L.length) : pickStep L b n < L.length := by
  unfold pickStep; repeat' split
  all_goals omega
theorem pickStep_le {L : List S51} {b : Int} {n : Nat} (hb : -1 ≤ b) : -1 ≤ pickStep L b n := by
  unfold pickStep; repeat' split
  all_goals omega
theorem pickFrom_bd {L : List S51} : ∀ m n b, n + m = L.length → -1 ≤ b → b < (L.length : Int) → -1 ≤ pickFrom L m n b ∧ pickFrom L m n b < L.length := by
  intro m
  induction m with
  | zero => intro n b hn h0 h1; exact ⟨h0, h1⟩
  | succ m ih => intro n b hn h0 h1; exact ih (n + 1) _ (by omega) (pickStep_le h0) (pickStep_lt h1 (by omega))
theorem pickM_bd (L : List S51) : -1 ≤ pickM L ∧ pickM L < L.length ∨ L.length = 0 ∧ pickM L = -1 := by
  by_cases h : L.length = 0
  · right; unfold pickM; rw [h]; exact ⟨rfl, rfl⟩
  · left; exact pickFrom_bd L.length 0 (-1) (by omega) (by omega) (by omega)

theorem pickFrom_busy {L : List S51} : ∀ m n b, n + m = L.length → (0 ≤ pickFrom L m n b ↔ (0 ≤ b ∨ (L.drop n).any (fun x => x.f2) = true)) := by
  intro m
  induction m with
  | zero => intro n b hn; rw [List.drop_eq_nil_of_le (by omega)]; simp [pickFrom]
  | succ m ih =>
    intro n b hn
    have hlt : n < L.length := by omega
    have hg : L.getD n z51 = L[n] := getD_lt _ hlt
    rw [pickFrom, ih (n + 1) _ (by omega), any_drop hlt]
    unfold pickStep; rw [hg]
    cases hf : L[n].f2 with
    | false => simp
    | true =>
      simp only [if_true, Bool.true_or, or_true, iff_true]
      left
      repeat' split
      all_goals omega
theorem pickM_busy (L : List S51) : 0 ≤ pickM L ↔ L.any (fun x => x.f2) = true := by
  unfold pickM; rw [pickFrom_busy L.length 0 (-1) (by omega)]; simp

theorem iPick_loop (a b c d : Int) (L : List S51) (hl : L.length ≤ 1048576) : ∀ m n, n + m = L.length → ∀ x : Int, x < L.length → Ev (fun k => impl_Fair_pick.l0 k x L (L.length : Int) (n : Int) a b c d L) (pickFrom L m n x) := by
  intro m
  induction m with
  | zero =>
    intro n hn x hx
    refine Ev.next (f := fun _ => some x) (Ev.now _) fun k => ?_
    simp only [impl_Fair_pick.l0]; rw [if_neg (by omega)]
  | succ m ih =>
    intro n hn x hx
    have hlt : n < L.length := by omega
    have hg : L.getD n z51 = L[n] := getD_lt _ hlt
    refine Ev.next (ih (n + 1) (by omega) (pickStep L x n) (pickStep_lt hx hlt)) fun k => ?_
    simp only [impl_Fair_pick.l0, impl_VecTop.f, Option.bind_some]
    rw [if_pos (by omega), if_pos (by omega), if_pos (by omega), rdK_nat L n hlt, wrap_succ (by omega)]
    unfold pickStep; rw [hg]
    cases hf : L[n].f2 with
    | false => simp
    | true =>
      simp only [if_true]
      by_cases h0 : x < 0
      · rw [if_pos h0, if_pos h0]
      · rw [if_neg h0, if_neg h0, if_pos (by omega), if_pos (by omega)]
        by_cases h1 : topK L[n] < topK (rd_T51 L x)
        · rw [if_pos h1, if_pos h1]
        · rw [if_neg h1, if_neg h1]

theorem iPick_ev (a b c d : Int) (L : List S51) (hl : L.length ≤ 1048576) : Ev (fun k => impl_Fair_pick.f k a b c d L) (pickM L) := by
  unfold impl_Fair_pick.f pickM
  exact iPick_loop a b c d L hl L.length 0 (by omega) (-1) (by omega)

theorem iBusyAny_ev (a b c d : Int) (L : List S51) (hl : L.length ≤ 1048576) : Ev (fun k => impl_Fair_isBusy.f k a b c d L) (L.any (fun x => x.f2)) := by
  unfold impl_Fair_isBusy.f
  refine Ev.to (Ev.bind (iPick_ev a b c d L hl) (f := fun _ t => some (decide (t ≥ 0))) (Ev.now _)) ?_
  rw [Bool.eq_iff_iff, decide_eq_true_eq]
  exact pickM_busy L

theorem sBusyIds_loop (a b c d : Int) (L : List S51) (hl : L.length ≤ 1048576) : ∀ n, n ≤ L.length → ∀ acc : List Int, acc.length ≤ n → Ev (fun k => spec_l19Busy.l0 k acc (n : Int) a b c d L) (acc ++ ((L.drop n).filter (fun x => x.f2)).map (fun x => x.f0)) := by
  refine down ?_ ?_
  · intro acc ha
    refine Ev.to (Ev.next (f := fun _ => some acc) (Ev.now _) fun k => ?_) (by simp)
    simp only [spec_l19Busy.l0]; rw [if_neg (by omega)]
  · intro n hn ih acc ha
    rw [List.drop_eq_getElem_cons hn, List.filter_cons]
    cases hf : L[n].f2 with
    | false =>
      refine Ev.to (Ev.next (ih acc (by omega)) fun k => ?_) (by simp)
      simp only [spec_l19Busy.l0]
      rw [if_pos (by omega), if_pos (by omega), rdK_nat L n hn, hf, if_neg (by decide), wrap_succ (by omega)]
    | true =>
      refine Ev.to (Ev.next (ih (acc ++ [L[n].f0]) (by simp; omega)) fun k => ?_) (by simp)
      simp only [spec_l19Busy.l0]
      rw [if_pos (by omega), if_pos (by omega), rdK_nat L n hn, hf, if_pos rfl, if_pos (by omega), wrap_succ (by omega)]

theorem sBusyIds_ev (a b c d : Int) (L : List S51) (hl : L.length ≤ 1048576) : Ev (fun k => spec_l19Busy.f k a b c d L) ((L.filter (fun x => x.f2)).map (fun x => x.f0)) := by
  have := sBusyIds_loop a b c d L hl 0 (by omega) [] (by simp)
  simpa [spec_l19Busy.f] using this

theorem busy_ids (L : List S51) : decide ((((L.filter (fun x => x.f2)).map (fun x => x.f0)).length : Int) > 0) = L.any (fun x => x.f2) := by
  rw [Bool.eq_iff_iff, decide_eq_true_eq, List.length_map, List.any_eq_true]
  constructor
  · intro h
    obtain ⟨x, hx⟩ := List.exists_mem_of_length_pos (l := L.filter (fun x => x.f2)) (by omega)
    rw [List.mem_filter] at hx
    exact ⟨x, hx.1, hx.2⟩
  · rintro ⟨x, h1, h2⟩
    have := List.length_pos_of_mem (List.mem_filter.2 ⟨h1, h2⟩)
    exact Int.ofNat_lt.2 this

def branchAt (a : Int) (K : List S51) (B : List S54) (n : Nat) : Bool :=
  decide ((B.getD n z54).f0 = (K.getD n z51).f0) && (decide ((B.getD n z54).f1.f0 = a) &&
    (fairM (B.getD n z54).f1.f0 (B.getD n z54).f1.f1.f0 (B.getD n z54).f1.f1.f1 (B.getD n z54).f1.f1.f2 (B.getD n z54).f1.f2 && ((K.getD n z51).f2 == (B.getD n z54).f1.f2.any (fun x => x.f2))))
def branchesFrom (a : Int) (K : List S51) (B : List S54) : Nat → Nat → Bool
  | 0, _ => true
  | d + 1, n => branchAt a K B n && branchesFrom a K B d (n + 1)
def treeM (a b c d : Int) (K : List S51) (B : List S54) : Bool := fairM a b c d K && (decide (B.length = K.length) && branchesFrom a K B B.length 0)

theorem sTree_loop (a b c d : Int) (K : List S51) (B : List S54) (hk : B.length = K.length) (hl : B.length ≤ 1048576) (hx : ∀ x ∈ B, x.f1.f2.length ≤ 1048576) : ∀ m n, n + m = B.length → Ev (fun k => spec_TreeOk.l0 k (n : Int) a b c d K B) (branchesFrom a K B m n) := by
  intro m
  induction m with
  | zero =>
    intro n hn
    refine Ev.next (f := fun _ => some _) (Ev.now _) fun k => ?_
    simp only [spec_TreeOk.l0]; rw [if_neg (by omega)]; rfl
  | succ m ih =>
    intro n hn
    have hlt : n < B.length := by omega
    have hkt : n < K.length := by omega
    have hg : B.getD n z54 = B[n] := getD_lt _ hlt
    have hgk : K.getD n z51 = K[n] := getD_lt _ hkt
    have hxn := hx _ (List.getElem_mem hlt)
    have hr := ih (n + 1) (by omega)
    have hj : ∀ t : Bool, Ev (fun k => spec_TreeOk.j2 k (n : Int) (!t) a b c d K B B[n].f0 B[n].f1.f0 B[n].f1.f1.f0 B[n].f1.f1.f1 B[n].f1.f1.f2 B[n].f1.f2) (t && ((K[n].f2 == B[n].f1.f2.any (fun x => x.f2)) && branchesFrom a K B m (n + 1))) := by
      intro t
      cases t with
      | false => exact Ev.next (f := fun _ => some false) (Ev.now _) fun k => by simp [spec_TreeOk.j2]
      | true =>
        refine Ev.to (Ev.next (Ev.bind (sBusyIds_ev B[n].f1.f0 B[n].f1.f1.f0 B[n].f1.f1.f1 B[n].f1.f1.f2 B[n].f1.f2 hxn) (f := fun k t171 => if (K[n].f2 != decide ((t171.length : Int) > 0)) = true then some false else spec_TreeOk.l0 k ((n + 1 : Nat) : Int) a b c d K B) (r := (K[n].f2 == B[n].f1.f2.any (fun x => x.f2)) && branchesFrom a K B m (n + 1)) ?_) fun k => ?_) (by simp)
        · simp only [busy_ids]
          cases hb : (K[n].f2 == B[n].f1.f2.any (fun x => x.f2)) with
          | true => simp only [bne, hb, Bool.not_true, if_neg (show ¬ (false = true) by decide)]; simpa using hr
          | false => simp only [bne, hb, Bool.not_false, if_true]; exact Ev.now _
        · simp only [spec_TreeOk.j2]
          rw [if_neg (by decide), if_pos (by omega), if_pos (by omega), rdK_nat K n hkt, wrap_succ (by omega)]
    simp only [branchesFrom, branchAt, hg, hgk]
    by_cases h1 : B[n].f0 = K[n].f0
    · by_cases h2 : B[n].f1.f0 = a
      · refine Ev.to (Ev.next (Ev.bind (sFair_ev B[n].f1.f0 B[n].f1.f1.f0 B[n].f1.f1.f1 B[n].f1.f1.f2 B[n].f1.f2 hxn) (f := fun k t169 => spec_TreeOk.j2 k (n : Int) (!t169) a b c d K B B[n].f0 B[n].f1.f0 B[n].f1.f1.f0 B[n].f1.f1.f1 B[n].f1.f1.f2 B[n].f1.f2) (hj _)) fun k => ?_) (by rw [decide_eq_true h1, decide_eq_true h2]; simp [Bool.and_assoc])
        simp only [spec_TreeOk.l0]; rw [if_pos (by omega), if_pos (by omega), if_pos (by omega), rdB_nat B n hlt, rdK_nat K n hkt, if_pos h1, if_pos h2]
      · refine Ev.to (Ev.next (hj false) fun k => ?_) (by rw [decide_eq_false h2]; simp)
        simp only [spec_TreeOk.l0]; rw [if_pos (by omega), if_pos (by omega), if_pos (by omega), rdB_nat B n hlt, rdK_nat K n hkt, if_pos h1, if_neg h2]; rfl
    · refine Ev.to (Ev.next (hj false) fun k => ?_) (by rw [decide_eq_false h1]; simp)
      simp only [spec_TreeOk.l0]; rw [if_pos (by omega), if_pos (by omega), if_pos (by omega), rdB_nat B n hlt, rdK_nat K n hkt, if_neg h1]; rfl

theorem sTree_ev (a b c d : Int) (K : List S51) (B : List S54) (hk : K.length ≤ 1048576) (hl : B.length ≤ 1048576) (hx : ∀ x ∈ B, x.f1.f2.length ≤ 1048576) : Ev (fun k => spec_TreeOk.f k a b c d K B) (treeM a b c d K B) := by
  have hj : ∀ t : Bool, (t = false → B.length = K.length) → Ev (fun k => spec_TreeOk.j0 k t a b c d K B) (!t && branchesFrom a K B B.length 0) := by
    intro t ht
    cases t with
    | true => exact Ev.next (f := fun _ => some false) (Ev.now _) fun k => by simp [spec_TreeOk.j0]
    | false => exact Ev.to (Ev.next (sTree_loop a b c d K B (ht rfl) hl hx B.length 0 (by omega)) fun k => by simp [spec_TreeOk.j0]) (by simp)
  unfold spec_TreeOk.f treeM
  refine Ev.bind (sFair_ev a b c d K hk) ?_
  cases fairM a b c d K with
  | false => exact Ev.to (hj true (by simp)) (by simp)
  | true =>
    simp only [if_true]
    refine Ev.to (hj _ (fun h => ?_)) ?_
    · simp at h; omega
    · by_cases h : B.length = K.length
      · simp [h]
      · have : ¬ ((B.length : Int) = (K.length : Int)) := by omega
        simp [h, this]

theorem iTree_loop (a b c d : Int) (K : List S51) (B : List S54) (hk : B.length = K.length) (hl : B.length ≤ 1048576) (hx : ∀ x ∈ B, x.f1.f2.length ≤ 1048576) : ∀ m n, n + m = B.length → Ev (fun k => impl_TreeOk.l0 k B (B.length : Int) (n : Int) a b c d K B) (branchesFrom a K B m n) := by
  intro m
  induction m with
  | zero =>
    intro n hn
    refine Ev.next (f := fun _ => some _) (Ev.now _) fun k => ?_
    simp only [impl_TreeOk.l0]; rw [if_neg (by omega)]; rfl
  | succ m ih =>
    intro n hn
    have hlt : n < B.length := by omega
    have hkt : n < K.length := by omega
    have hg : B.getD n z54 = B[n] := getD_lt _ hlt
    have hgk : K.getD n z51 = K[n] := getD_lt _ hkt
    have hxn := hx _ (List.getElem_mem hlt)
    have hr := ih (n + 1) (by omega)
    simp only [branchesFrom, branchAt, hg, hgk]
    by_cases h1 : B[n].f0 = K[n].f0
    · refine Ev.next (Ev.bind (iFair_ev B[n].f1.f0 B[n].f1.f1.f0 B[n].f1.f1.f1 B[n].f1.f1.f2 B[n].f1.f2 hxn) (f := fun k t284 => if t284 = true then (if B[n].f1.f0 = a then ((impl_Fair_isBusy.f k B[n].f1.f0 B[n].f1.f1.f0 B[n].f1.f1.f1 B[n].f1.f1.f2 B[n].f1.f2).bind fun t285 => (if (K[n].f2 != t285) = true then (some false) else (impl_TreeOk.l0 k B (B.length : Int) ((n + 1 : Nat) : Int) a b c d K B))) else (some false)) else (some false)) ?_) fun k => ?_
      · rw [decide_eq_true h1]
        cases fairM B[n].f1.f0 B[n].f1.f1.f0 B[n].f1.f1.f1 B[n].f1.f1.f2 B[n].f1.f2 with
        | false => exact Ev.now' fun k => by simp
        | true =>
          simp only [if_true, Bool.true_and]
          by_cases h2 : B[n].f1.f0 = a
          · simp only [if_pos h2, decide_eq_true h2, Bool.true_and]
            refine Ev.bind (iBusyAny_ev _ _ _ _ _ hxn) ?_
            cases hb : (K[n].f2 == B[n].f1.f2.any (fun x => x.f2)) with
            | true => simp only [bne, hb, Bool.not_true, if_neg (show ¬ (false = true) by decide)]; simpa using hr
            | false => simp only [bne, hb, Bool.not_false, if_true]; exact Ev.now _
          · simp only [if_neg h2, decide_eq_false h2]; exact Ev.now _
      · simp only [impl_TreeOk.l0]; rw [if_pos (by omega), if_pos (by omega), if_pos (by omega), if_pos (by omega), rdB_nat B n hlt, rdK_nat K n hkt, if_pos h1, wrap_succ (by omega)]
    · refine Ev.to (Ev.next (f := fun _ => some false) (Ev.now _) fun k => ?_) (by rw [decide_eq_false h1]; simp)
      simp only [impl_TreeOk.l0]; rw [if_pos (by omega), if_pos (by omega), if_pos (by omega), if_pos (by omega), rdB_nat B n hlt, rdK_nat K n hkt, if_neg h1]

theorem iTree_ev (a b c d : Int) (K : List S51) (B : List S54) (hk : K.length ≤ 1048576) (hl : B.length ≤ 1048576) (hx : ∀ x ∈ B, x.f1.f2.length ≤ 1048576) : Ev (fun k => impl_TreeOk.f k a b c d K B) (treeM a b c d K B) := by
  have hj : ∀ t : Bool, (t = false → B.length = K.length) → Ev (fun k => impl_TreeOk.j0 k t a b c d K B) (!t && branchesFrom a K B B.length 0) := by
    intro t ht
    cases t with
    | true => exact Ev.next (f := fun _ => some false) (Ev.now _) fun k => by simp [impl_TreeOk.j0]
    | false => exact Ev.to (Ev.next (iTree_loop a b c d K B (ht rfl) hl hx B.length 0 (by omega)) fun k => by simp [impl_TreeOk.j0]) (by simp)
  unfold impl_TreeOk.f treeM
  refine Ev.bind (iFair_ev a b c d K hk) ?_
  cases fairM a b c d K with
  | false => exact Ev.to (hj true (by simp)) (by simp)
  | true =>
    simp only [if_true]
    refine Ev.to (hj _ (fun h => ?_)) ?_
    · simp at h; omega
    · by_cases h : B.length = K.length
      · simp [h]
      · have : ¬ ((B.length : Int) = (K.length : Int)) := by omega
        simp [h, this]

theorem set_mid {α : Type} (p t : List α) (x v : α) : (p ++ x :: t).set p.length v = p ++ v :: t := by
  rw [List.set_append_right _ _ (by omega), Nat.sub_self]; rfl
theorem rdK_mid (p t : List S51) (x : S51) : rd_T51 (p ++ x :: t) (p.length : Int) = x := by
  rw [rdK_nat _ p.length (by simp)]; simp
theorem rdB_mid (p t : List S54) (x : S54) : rd_T54 (p ++ x :: t) (p.length : Int) = x := by
  rw [rdB_nat _ p.length (by simp)]; simp
theorem wrap_up {x : Int} (h0 : 0 ≤ x) (h : x < 4611686018427387904) : wrap64 (x + 1) = x + 1 := wrap_id (by omega) (by omega)
/-- What a mark from k on leaves in a kid, in kids, in branches; and where the marks end. -/
def kidAt6 (k : Int) : S51 := ⟨k, k + 1, Int.tmod (k + 1 + 1) 3 == 0, ⟨k + 1 + 1 + 1, k + 1 + 1 + 1 + 1, k + 1 + 1 + 1 + 1 + 1⟩⟩
def marksK (k : Int) : List S51 → List S51
  | [] => []
  | _ :: t => kidAt6 k :: marksK (k + 6) t
def endB : Int → List S54 → Int
  | k, [] => k
  | k, b :: t => endB (k + 5 + 6 * (b.f1.f2.length : Int)) t
def marksB : Int → List S54 → List S54
  | _, [] => []
  | k, b :: t => ⟨k, ⟨k + 1, ⟨k + 1 + 1, k + 1 + 1 + 1, k + 1 + 1 + 1 + 1⟩, marksK (k + 5) b.f1.f2⟩⟩ :: marksB (k + 5 + 6 * (b.f1.f2.length : Int)) t
theorem markKids_loop : ∀ (l p : List S51) (k0 : Int), p.length + l.length ≤ 1048576 → 0 ≤ k0 → k0 + 6 * (l.length : Int) ≤ 1000000000000000 → Ev (fun k => laws_markKidS.l0 k (p ++ l) k0 (p.length : Int)) (k0 + 6 * (l.length : Int), p ++ marksK k0 l)
  | [], p, k0, hl, h0, hk => by
    refine Ev.to (Ev.next (f := fun _ => some (k0, p ++ [])) (Ev.now _) fun k => ?_) (by simp [marksK])
    simp [laws_markKidS.l0]
  | x :: t, p, k0, hl, h0, hk => by
    simp only [List.length_cons] at hl hk
    refine Ev.to (Ev.next (markKids_loop t (p ++ [kidAt6 k0]) (k0 + 6) (by simp; omega) (by omega) (by omega)) fun k => ?_) (by simp [marksK]; omega)
    simp only [laws_markKidS.l0, Option.bind_some, Int.toNat_natCast]
    rw [if_pos (by simp <;> omega)]; (try rw [if_pos (by omega)])
    simp only [rdK_mid, set_mid]
    rw [wrap_up (x := k0) (by omega) (by omega), wrap_up (x := k0 + 1) (by omega) (by omega), wrap_up (x := k0 + 1 + 1) (by omega) (by omega), wrap_up (x := k0 + 1 + 1 + 1) (by omega) (by omega), wrap_up (x := k0 + 1 + 1 + 1 + 1) (by omega) (by omega), wrap_up (x := k0 + 1 + 1 + 1 + 1 + 1) (by omega) (by omega), wrap_succ (by omega)]
    rw [show k0 + 1 + 1 + 1 + 1 + 1 + 1 = k0 + 6 by omega]
    simp [kidAt6]
theorem markKids_ev (l : List S51) (k0 : Int) (hl : l.length ≤ 1048576) (h0 : 0 ≤ k0) (hk : k0 ≤ 100000000000000) : Ev (fun k => laws_markKidS.f k l k0) (k0 + 6 * (l.length : Int), marksK k0 l) := by
  have := markKids_loop l [] k0 (by simpa using hl) h0 (by omega)
  exact Ev.congr (fun k => by unfold laws_markKidS.f; simp) this
theorem heldKids_loop : ∀ (l p : List S51) (k0 : Int), p.length + l.length ≤ 1048576 → 0 ≤ k0 → k0 + 6 * (l.length : Int) ≤ 1000000000000000 → Ev (fun k => laws_heldKidS.l0 k (p ++ marksK k0 l) k0 (p.length : Int)) (k0 + 6 * (l.length : Int))
  | [], p, k0, hl, h0, hk => by
    refine Ev.to (Ev.next (f := fun _ => some k0) (Ev.now _) fun k => ?_) (by simp)
    simp [laws_heldKidS.l0, marksK]
  | x :: t, p, k0, hl, h0, hk => by
    simp only [List.length_cons] at hl hk
    refine Ev.to (Ev.next (heldKids_loop t (p ++ [kidAt6 k0]) (k0 + 6) (by simp; omega) (by omega) (by omega)) fun k => ?_) (by simp; omega)
    rw [show marksK k0 (x :: t) = kidAt6 k0 :: marksK (k0 + 6) t from rfl]
    simp only [laws_heldKidS.l0]
    rw [if_pos (show (p.length : Int) < ((p ++ kidAt6 k0 :: marksK (k0 + 6) t).length : Int) by simp <;> omega)]; (try rw [if_pos (by omega)])
    simp only [rdK_mid]
    rw [wrap_up (x := k0) (by omega) (by omega), wrap_up (x := k0 + 1) (by omega) (by omega), wrap_up (x := k0 + 1 + 1) (by omega) (by omega), wrap_up (x := k0 + 1 + 1 + 1) (by omega) (by omega), wrap_up (x := k0 + 1 + 1 + 1 + 1) (by omega) (by omega), wrap_up (x := k0 + 1 + 1 + 1 + 1 + 1) (by omega) (by omega), wrap_succ (by omega)]
    rw [show k0 + 1 + 1 + 1 + 1 + 1 + 1 = k0 + 6 by omega]
    simp [kidAt6]
theorem heldKids_ev (l : List S51) (k0 : Int) (hl : l.length ≤ 1048576) (h0 : 0 ≤ k0) (hk : k0 ≤ 100000000000000) : Ev (fun k => laws_heldKidS.f k (marksK k0 l) k0) (k0 + 6 * (l.length : Int)) := by
  have := heldKids_loop l [] k0 (by simpa using hl) h0 (by omega)
  exact Ev.congr (fun k => by unfold laws_heldKidS.f; simp) this
theorem endB_ge : ∀ (l : List S54) (k : Int), k ≤ endB k l
  | [], k => by simp [endB]
  | b :: t, k => by have := endB_ge t (k + 5 + 6 * (b.f1.f2.length : Int)); simp only [endB]; omega
theorem markBranches_loop : ∀ (l p : List S54) (k0 : Int), p.length + l.length ≤ 1048576 → (∀ x ∈ l, x.f1.f2.length ≤ 1048576) → 0 ≤ k0 → k0 + 8000000 * (l.length : Int) ≤ 100000000000000 → Ev (fun k => laws_markBranchS.l0 k (p ++ l) k0 (p.length : Int)) (endB k0 l, p ++ marksB k0 l)
  | [], p, k0, hl, hx, h0, hk => by
    refine Ev.to (Ev.next (f := fun _ => some (k0, p ++ [])) (Ev.now _) fun k => ?_) (by simp [marksB, endB])
    simp [laws_markBranchS.l0]
  | b :: t, p, k0, hl, hx, h0, hk => by
    simp only [List.length_cons] at hl hk
    have hb : b.f1.f2.length ≤ 1048576 := hx b (by simp)
    refine Ev.next (f := fun k => (laws_markKidS.f k b.f1.f2 (k0 + 5)).bind fun bt => laws_markBranchS.l0 k (p ++ (⟨k0, ⟨k0 + 1, ⟨k0 + 1 + 1, k0 + 1 + 1 + 1, k0 + 1 + 1 + 1 + 1⟩, bt.2⟩⟩ : S54) :: t) bt.1 ((p.length + 1 : Nat) : Int)) (Ev.bind (markKids_ev b.f1.f2 (k0 + 5) hb (by omega) (by omega)) ?_) fun k => ?_
    · have := markBranches_loop t (p ++ [⟨k0, ⟨k0 + 1, ⟨k0 + 1 + 1, k0 + 1 + 1 + 1, k0 + 1 + 1 + 1 + 1⟩, marksK (k0 + 5) b.f1.f2⟩⟩]) (k0 + 5 + 6 * (b.f1.f2.length : Int)) (by simp; omega) (fun x hm => hx x (by simp [hm])) (by omega) (by omega)
      simpa [marksB, endB] using this
    · simp only [laws_markBranchS.l0, Option.bind_some, Int.toNat_natCast]
      rw [if_pos (by simp <;> omega)]; (try rw [if_pos (by omega)])
      simp only [rdB_mid, set_mid]
      rw [wrap_up (x := k0) (by omega) (by omega), wrap_up (x := k0 + 1) (by omega) (by omega), wrap_up (x := k0 + 1 + 1) (by omega) (by omega), wrap_up (x := k0 + 1 + 1 + 1) (by omega) (by omega), wrap_up (x := k0 + 1 + 1 + 1 + 1) (by omega) (by omega), wrap_succ (by omega)]
      rw [show k0 + 1 + 1 + 1 + 1 + 1 = k0 + 5 by omega]
theorem markBranches_ev (l : List S54) (k0 : Int) (hl : l.length ≤ 1048576) (hx : ∀ x ∈ l, x.f1.f2.length ≤ 1048576) (h0 : 0 ≤ k0) (hk : k0 ≤ 10000000000000) : Ev (fun k => laws_markBranchS.f k l k0) (endB k0 l, marksB k0 l) := by
  have := markBranches_loop l [] k0 (by simpa using hl) hx h0 (by omega)
  exact Ev.congr (fun k => by unfold laws_markBranchS.f; simp) this
theorem heldBranches_loop : ∀ (l p : List S54) (k0 : Int), p.length + l.length ≤ 1048576 → (∀ x ∈ l, x.f1.f2.length ≤ 1048576) → 0 ≤ k0 → k0 + 8000000 * (l.length : Int) ≤ 100000000000000 → Ev (fun k => laws_heldBranchS.l0 k (p ++ marksB k0 l) k0 (p.length : Int)) (endB k0 l)
  | [], p, k0, hl, hx, h0, hk => by
    refine Ev.to (Ev.next (f := fun _ => some k0) (Ev.now _) fun k => ?_) (by simp [endB])
    simp [laws_heldBranchS.l0, marksB]
  | b :: t, p, k0, hl, hx, h0, hk => by
    simp only [List.length_cons] at hl hk
    have hb : b.f1.f2.length ≤ 1048576 := hx b (by simp)
    refine Ev.next (f := fun k => (laws_heldKidS.f k (marksK (k0 + 5) b.f1.f2) (k0 + 5)).bind fun s => if s < 0 then some (-1) else laws_heldBranchS.l0 k (p ++ marksB k0 (b :: t)) s ((p.length + 1 : Nat) : Int)) (Ev.bind (heldKids_ev b.f1.f2 (k0 + 5) hb (by omega) (by omega)) ?_) fun k => ?_
    · have := heldBranches_loop t (p ++ [⟨k0, ⟨k0 + 1, ⟨k0 + 1 + 1, k0 + 1 + 1 + 1, k0 + 1 + 1 + 1 + 1⟩, marksK (k0 + 5) b.f1.f2⟩⟩]) (k0 + 5 + 6 * (b.f1.f2.length : Int)) (by simp; omega) (fun x hm => hx x (by simp [hm])) (by omega) (by omega)
      simp only [if_neg (show ¬ (k0 + 5 + 6 * (b.f1.f2.length : Int) < 0) by omega)]
      simpa [marksB, endB] using this
    · simp only [laws_heldBranchS.l0, marksB]
      rw [if_pos (by simp <;> omega)]; (try rw [if_pos (by omega)])
      simp only [rdB_mid]
      rw [wrap_up (x := k0) (by omega) (by omega), wrap_up (x := k0 + 1) (by omega) (by omega), wrap_up (x := k0 + 1 + 1) (by omega) (by omega), wrap_up (x := k0 + 1 + 1 + 1) (by omega) (by omega), wrap_up (x := k0 + 1 + 1 + 1 + 1) (by omega) (by omega), wrap_succ (by omega)]
      rw [show k0 + 1 + 1 + 1 + 1 + 1 = k0 + 5 by omega]
      simp <;> (intro h; omega)
theorem heldBranches_ev (l : List S54) (k0 : Int) (hl : l.length ≤ 1048576) (hx : ∀ x ∈ l, x.f1.f2.length ≤ 1048576) (h0 : 0 ≤ k0) (hk : k0 ≤ 10000000000000) : Ev (fun k => laws_heldBranchS.f k (marksB k0 l) k0) (endB k0 l) := by
  have := heldBranches_loop l [] k0 (by simpa using hl) hx h0 (by omega)
  exact Ev.congr (fun k => by unfold laws_heldBranchS.f; simp) this
def endT (K : List S51) (B : List S54) : Int := endB (1 + 6 * (K.length : Int)) B
theorem endT_pos (K : List S51) (B : List S54) : ¬ endT K B < 0 := by have := endB_ge B (1 + 6 * (K.length : Int)); unfold endT; omega
theorem markTree_ev (a b c d : Int) (K : List S51) (B : List S54) (hk : K.length ≤ 1048576) (hl : B.length ≤ 1048576) (hx : ∀ x ∈ B, x.f1.f2.length ≤ 1048576) : Ev (fun k => laws_markTree.f k a b c d K B 1) (endT K B, marksK 1 K, marksB (1 + 6 * (K.length : Int)) B) := by
  unfold laws_markTree.f laws_markFair.f
  refine Ev.bind (Ev.bind (markKids_ev K 1 hk (by omega) (by omega)) (f := fun _ bt => some (bt.1, bt.2)) (Ev.now _)) ?_
  exact Ev.bind (markBranches_ev B (1 + 6 * (K.length : Int)) hl hx (by omega) (by omega)) (f := fun _ bt => some (bt.1, marksK 1 K, bt.2)) (Ev.now _)
theorem heldTree_ev (a b c d : Int) (K : List S51) (B : List S54) (hk : K.length ≤ 1048576) (hl : B.length ≤ 1048576) (hx : ∀ x ∈ B, x.f1.f2.length ≤ 1048576) : Ev (fun k => laws_heldTree.f k a b c d (marksK 1 K) (marksB (1 + 6 * (K.length : Int)) B) 1) (endT K B) := by
  unfold laws_heldTree.f laws_heldFair.f
  refine Ev.bind (Ev.bind (heldKids_ev K 1 hk (by omega) (by omega)) (f := fun _ s => if s < 0 then some (-1) else some s) (Ev.now' fun _ => if_neg (by omega))) ?_
  simp only [if_neg (show ¬ (1 + 6 * (K.length : Int) < 0) by omega)]
  exact Ev.bind (heldBranches_ev B (1 + 6 * (K.length : Int)) hl hx (by omega) (by omega)) (f := fun _ s => if s < 0 then some (-1) else some s) (Ev.now' fun _ => if_neg (endT_pos K B))

theorem iCopy_loop (a' b' c' d' : Int) (K' : List S51) (B : List S54) (hl : B.length ≤ 1048576) (hx : ∀ x ∈ B, x.f1.f2.length ≤ 1048576) : ∀ n, n ≤ B.length → ∀ acc : List S54, acc.length ≤ n → Ev (fun k => impl_copyTree.l0 k B (B.length : Int) (n : Int) a' b' c' d' K' acc) (a', b', c', d', K', acc ++ B.drop n) := by
  refine down ?_ ?_
  · intro acc ha
    refine Ev.to (Ev.next (f := fun _ => some (a', b', c', d', K', acc)) (Ev.now _) fun k => ?_) (by simp)
    simp only [impl_copyTree.l0]; rw [if_neg (by omega)]
  · intro n hn ih acc ha
    have hb := hx _ (List.getElem_mem hn)
    refine Ev.to (Ev.next (ih (acc ++ [B[n]]) (by simp; omega)) fun k => ?_) (by rw [List.drop_eq_getElem_cons hn]; simp)
    simp only [impl_copyTree.l0]
    rw [if_pos (by omega), if_pos (by omega), if_pos (by omega), rdB_nat B n hn]
    simp only [impl_copyFair.f, slices_Clone_impl_Kid_impl_Kid.f, Option.bind_some]
    rw [if_pos (by simp <;> omega)]
    simp only [Option.bind_some, if_pos (show acc.length < 2199023255552 by omega), wrap_succ (show n < 4611686018427387904 by omega), List.nil_append]
theorem iCopyTree_ev (a b c d : Int) (K : List S51) (B : List S54) (hk : K.length ≤ 1048576) (hl : B.length ≤ 1048576) (hx : ∀ x ∈ B, x.f1.f2.length ≤ 1048576) : Ev (fun k => impl_copyTree.f k a b c d K B) (a, b, c, d, K, B) := by
  refine Ev.to (Ev.congr (fun k => ?_) (iCopy_loop a b c d K B hl hx 0 (by omega) [] (by simp))) (by simp)
  unfold impl_copyTree.f
  simp only [impl_copyFair.f, slices_Clone_impl_Kid_impl_Kid.f, Option.bind_some]
  rw [if_pos (by simp <;> omega)]
  simp

def idI (id : Int) : List Int → Nat → Int
  | [], _ => -1
  | x :: t, n => if x = id then (n : Int) else idI id t (n + 1)
theorem idI_cases (id : Int) : ∀ (l : List Int) (n : Nat), idI id l n = -1 ∨ ∃ j, n ≤ j ∧ j < n + l.length ∧ idI id l n = (j : Int)
  | [], n => .inl rfl
  | x :: t, n => by
    unfold idI
    by_cases h : x = id
    · rw [if_pos h]; exact .inr ⟨n, by omega, by simp <;> omega, rfl⟩
    · rw [if_neg h]
      rcases idI_cases id t (n + 1) with e | ⟨j, h1, h2, e⟩
      · exact .inl e
      · exact .inr ⟨j, by omega, by simp <;> omega, e⟩
def atK (id : Int) (K : List S51) : Int := idI id (K.map (fun x => x.f0)) 0
theorem atK_cases (id : Int) (K : List S51) : atK id K = -1 ∨ ∃ j : Nat, j < K.length ∧ atK id K = (j : Int) := by
  rcases idI_cases id (K.map (fun x => x.f0)) 0 with e | ⟨j, _, h, e⟩
  · exact .inl e
  · exact .inr ⟨j, by simpa using h, e⟩
theorem iAtK_loop (id : Int) (K : List S51) (hl : K.length ≤ 1048576) : ∀ n, n ≤ K.length → Ev (fun k => slices_IndexFunc_impl_Kid_impl_Kid.l0 k K (fun z0_ z1_ z2_ z3_ z4_ z5_ => impl_Fair_at_1.f z0_ z1_ z2_ z3_ z4_ z5_ id) (K.length : Int) (n : Int)) (idI id ((K.drop n).map (fun x => x.f0)) n) := by
  refine down ?_ ?_
  · refine Ev.to (Ev.next (f := fun _ => some (-1)) (Ev.now _) fun k => ?_) (by simp [idI])
    simp only [slices_IndexFunc_impl_Kid_impl_Kid.l0]; rw [if_neg (by omega)]
  · intro n hn ih
    rw [List.drop_eq_getElem_cons hn, List.map_cons]
    by_cases h : K[n].f0 = id
    · refine Ev.to (Ev.next (f := fun _ => some (n : Int)) (Ev.now _) fun k => ?_) (by simp [idI, h])
      simp only [slices_IndexFunc_impl_Kid_impl_Kid.l0, impl_Fair_at_1.f]; rw [if_pos (by omega), if_pos (by omega), if_pos (by omega), rdK_nat K n hn]; simp [h]
    · refine Ev.to (Ev.next ih fun k => ?_) (by simp [idI, h])
      simp only [slices_IndexFunc_impl_Kid_impl_Kid.l0, impl_Fair_at_1.f]; rw [if_pos (by omega), if_pos (by omega), if_pos (by omega), rdK_nat K n hn, wrap_succ (by omega)]; simp [h]
theorem iAtK_ev (id a b c d : Int) (K : List S51) (hl : K.length ≤ 1048576) : Ev (fun k => impl_Fair_at.f k a b c d K id) (atK id K) := by
  have h := iAtK_loop id K hl 0 (by omega)
  unfold impl_Fair_at.f slices_IndexFunc_impl_Kid_impl_Kid.f
  exact Ev.bind (f := fun _ t => some t) (by simpa [atK] using h) (Ev.now _)
def zF : S34 := ⟨0, ⟨0, 0, 0⟩, []⟩

theorem branchesFrom_at {a : Int} {K : List S51} {B : List S54} : ∀ m n, n + m = B.length → branchesFrom a K B m n = true → ∀ i, n ≤ i → i < B.length → branchAt a K B i = true := by
  intro m
  induction m with
  | zero => intro n hn _ i h1 h2; omega
  | succ m ih =>
    intro n hn h i h1 h2
    rw [branchesFrom, Bool.and_eq_true] at h
    by_cases e : i = n
    · subst e; exact h.1
    · exact ih (n + 1) (by omega) h.2 i (by omega) h2

theorem tree_at {a b c d : Int} {K : List S51} {B : List S54} (h : treeM a b c d K B = true) : fairM a b c d K = true ∧ ∃ e : B.length = K.length, ∀ i (hi : i < B.length), B[i].f0 = (K[i]'(by omega)).f0 := by
  unfold treeM at h
  simp only [Bool.and_eq_true, decide_eq_true_eq] at h
  refine ⟨h.1, h.2.1, fun i hi => ?_⟩
  have := branchesFrom_at B.length 0 (by omega) h.2.2 i (by omega) hi
  unfold branchAt at this
  rw [getD_lt z54 hi, getD_lt z51 (by omega : i < K.length)] at this
  simp only [Bool.and_eq_true, decide_eq_true_eq] at this
  exact this.1


def atB (id : Int) (B : List S54) : Int := idI id (B.map (fun x => x.f0)) 0
theorem atB_cases (id : Int) (B : List S54) : atB id B = -1 ∨ ∃ j : Nat, j < B.length ∧ atB id B = (j : Int) := by
  rcases idI_cases id (B.map (fun x => x.f0)) 0 with e | ⟨j, _, h, e⟩
  · exact .inl e
  · exact .inr ⟨j, by simpa using h, e⟩
theorem sAtB_loop (id a b c d : Int) (K : List S51) (B : List S54) (hl : B.length ≤ 1048576) : ∀ n, n ≤ B.length → Ev (fun k => spec_l20At.l0 k id (n : Int) a b c d K B) (idI id ((B.drop n).map (fun x => x.f0)) n) := by
  refine down ?_ ?_
  · refine Ev.to (Ev.next (f := fun _ => some (-1)) (Ev.now _) fun k => ?_) (by simp [idI])
    simp only [spec_l20At.l0]; rw [if_neg (by omega)]
  · intro n hn ih
    rw [List.drop_eq_getElem_cons hn, List.map_cons]
    by_cases h : B[n].f0 = id
    · refine Ev.to (Ev.next (f := fun _ => some (n : Int)) (Ev.now _) fun k => ?_) (by simp [idI, h])
      simp only [spec_l20At.l0]; rw [if_pos (by omega), if_pos (by omega), rdB_nat B n hn, if_pos h]
    · refine Ev.to (Ev.next ih fun k => ?_) (by simp [idI, h])
      simp only [spec_l20At.l0]; rw [if_pos (by omega), if_pos (by omega), rdB_nat B n hn, if_neg h, wrap_succ (by omega)]
theorem sAtB_ev (id a b c d : Int) (K : List S51) (B : List S54) (hl : B.length ≤ 1048576) : Ev (fun k => spec_l20At.f k a b c d K B id) (atB id B) := by
  have h := sAtB_loop id a b c d K B hl 0 (by omega)
  simpa [spec_l20At.f, atB] using h
theorem at_same {a b c d : Int} {K : List S51} {B : List S54} {t : Int} (h : treeM a b c d K B = true) : atB t B = atK t K := by
  obtain ⟨_, e, hh⟩ := tree_at h
  unfold atB atK
  congr 1
  refine List.ext_getElem (by simp [e]) fun i h1 h2 => ?_
  simp only [List.getElem_map]
  exact hh i (by simpa using h1)

theorem kidsFrom_at {a t : Int} {L : List S51} : ∀ m n, n + m = L.length → kidsFrom a t L m n = true → ∀ i, n ≤ i → i < L.length → kidAt a t L i = true := by
  intro m
  induction m with
  | zero => intro n hn _ i h1 h2; omega
  | succ m ih =>
    intro n hn h i h1 h2
    rw [kidsFrom, Bool.and_eq_true] at h
    by_cases e : i = n
    · subst e; exact h.1
    · exact ih (n + 1) (by omega) h.2 i (by omega) h2

theorem incr_lt {L : List S51} (hs : ∀ n (hn : n + 1 < L.length), (L[n]'(by omega)).f0 < L[n + 1].f0) : ∀ m j (h : j + m + 1 < L.length), (L[j]'(by omega)).f0 < L[j + m + 1].f0 := by
  intro m
  induction m with
  | zero => intro j h; exact hs j h
  | succ m ih =>
    intro j h
    have h1 := ih j (by omega)
    have h2 := hs (j + m + 1) h
    show _ < L[j + m + 1 + 1].f0
    omega

theorem fair_at {a b c d : Int} {L : List S51} (h : fairM a b c d L = true) {i : Nat} (hi : i < L.length) : 0 ≤ L[i].f0 ∧ ∀ j (hj : j < i), (L[j]'(by omega)).f0 < L[i].f0 := by
  unfold fairM at h
  simp only [Bool.and_eq_true] at h
  have hk := kidsFrom_at L.length 0 (by omega) h.2.2.2
  have hg : ∀ n (hn : n < L.length), L.getD n z51 = L[n] := fun n hn => getD_lt _ hn
  have h0 : ∀ n (hn : n < L.length), 0 ≤ L[n].f0 := by
    intro n hn
    have := hk n (by omega) hn
    unfold kidAt kid1 at this
    rw [hg n hn] at this
    simp only [Bool.and_eq_true, decide_eq_true_eq] at this
    exact this.1.1.1
  have hs : ∀ n (hn : n + 1 < L.length), (L[n]'(by omega)).f0 < L[n + 1].f0 := by
    intro n hn
    have := hk (n + 1) (by omega) hn
    unfold kidAt ordAt at this
    rw [hg (n + 1) hn, show n + 1 - 1 = n from rfl, hg n (by omega)] at this
    simp only [Bool.and_eq_true, Bool.or_eq_true, decide_eq_true_eq] at this
    rcases this.2.2 with h | h
    · omega
    · exact h
  refine ⟨h0 i hi, fun j hj => ?_⟩
  obtain ⟨m, rfl⟩ : ∃ m, i = j + m + 1 := ⟨i - j - 1, by omega⟩
  exact incr_lt hs m j hi


theorem sAtK_loop (id a b c d : Int) (K : List S51) (hl : K.length ≤ 1048576) : ∀ n, n ≤ K.length → Ev (fun k => spec_l18At.l0 k id (n : Int) a b c d K) (idI id ((K.drop n).map (fun x => x.f0)) n) := by
  refine down ?_ ?_
  · refine Ev.to (Ev.next (f := fun _ => some (-1)) (Ev.now _) fun k => ?_) (by simp [idI])
    simp only [spec_l18At.l0]; rw [if_neg (by omega)]
  · intro n hn ih
    rw [List.drop_eq_getElem_cons hn, List.map_cons]
    by_cases h : K[n].f0 = id
    · refine Ev.to (Ev.next (f := fun _ => some (n : Int)) (Ev.now _) fun k => ?_) (by simp [idI, h])
      simp only [spec_l18At.l0]; rw [if_pos (by omega), if_pos (by omega), rdK_nat K n hn, if_pos h]
    · refine Ev.to (Ev.next ih fun k => ?_) (by simp [idI, h])
      simp only [spec_l18At.l0]; rw [if_pos (by omega), if_pos (by omega), rdK_nat K n hn, if_neg h, wrap_succ (by omega)]
theorem sAtK_ev (id a b c d : Int) (K : List S51) (hl : K.length ≤ 1048576) : Ev (fun k => spec_l18At.f k a b c d K id) (atK id K) := by
  have h := sAtK_loop id a b c d K hl 0 (by omega)
  simpa [spec_l18At.f, atK] using h

def kidNew (id w : Int) : S51 := ⟨id, w, false, ⟨0, 0, 0⟩⟩
def posK (id : Int) : List S51 → Nat
  | [] => 0
  | x :: t => if x.f0 < id then posK id t + 1 else 0
theorem posK_le (id : Int) : ∀ K : List S51, posK id K ≤ K.length
  | [] => by simp [posK]
  | x :: t => by
    have := posK_le id t
    unfold posK
    split <;> simp <;> omega
theorem posK_lt (id : Int) : ∀ (K : List S51) (i : Nat) (_ : i < posK id K) (hi : i < K.length), K[i].f0 < id
  | x :: t, i, h, hi => by
    unfold posK at h
    split at h
    · cases i with
      | zero => simpa
      | succ i => simpa using posK_lt id t i (by omega) (by simpa using hi)
    · omega
theorem posK_at (id : Int) : ∀ (K : List S51) (hi : posK id K < K.length), ¬ K[posK id K].f0 < id
  | x :: t, hi => by
    by_cases h : x.f0 < id
    · have e : posK id (x :: t) = posK id t + 1 := by simp [posK, h]
      have := posK_at id t (by rw [e] at hi; simpa using hi)
      simp only [e, List.getElem_cons_succ]
      exact this
    · have e : posK id (x :: t) = 0 := by simp [posK, h]
      simpa [e] using h
def joinK (id w : Int) (K : List S51) : List S51 := K.take (posK id K) ++ ([kidNew id w] ++ K.drop (posK id K))
def joinF (a b c d : Int) (K : List S51) (id w : Int) : S34 × Int :=
  if fairM a b c d K = true then (if 0 ≤ id ∧ id ≤ 9999 then (if 1 ≤ w ∧ w ≤ 10 then (if atK id K ≥ 0 then (zF, 2) else if (K.length : Int) = 48 then (zF, 3) else (⟨a, ⟨b, c, d⟩, joinK id w K⟩, 0)) else (zF, 1)) else (zF, 1)) else (zF, 1)
def joinT (x : S34 × Int) : Int × Int × Int × Int × List S51 × Int := (x.1.f0, x.1.f1.f0, x.1.f1.f1, x.1.f1.f2, x.1.f2, x.2)
theorem fair_len {a b c d : Int} {K : List S51} (h : fairM a b c d K = true) : K.length ≤ 48 := by
  unfold fairM at h
  simp only [Bool.and_eq_true, decide_eq_true_eq] at h
  exact h.2.2.1
theorem joinK_len (id w : Int) (K : List S51) : (joinK id w K).length = K.length + 1 := by
  have := posK_le id K
  simp [joinK]; omega
theorem joinF_len (a b c d : Int) (K : List S51) (id w : Int) : (joinF a b c d K id w).1.f2.length ≤ 1048576 := by
  unfold joinF
  by_cases hM : fairM a b c d K = true
  · rw [if_pos hM]
    have := fair_len hM
    repeat' split
    all_goals first | (simp [zF]; done) | (simp only [joinK_len]; omega)
  · rw [if_neg hM]; simp [zF]
theorem idI_neg (id : Int) : ∀ (l : List Int) (n : Nat), ¬ (idI id l n ≥ 0) → ∀ x ∈ l, x ≠ id
  | [], _, _, x, hx => by simp at hx
  | y :: t, n, h, x, hx => by
    unfold idI at h
    by_cases e : y = id
    · rw [if_pos e] at h; omega
    · rw [if_neg e] at h
      rcases List.mem_cons.1 hx with rfl | hx
      · exact e
      · exact idI_neg id t (n + 1) h x hx
theorem atK_neg {id : Int} {K : List S51} (h : ¬ (atK id K ≥ 0)) (i : Nat) (hi : i < K.length) : K[i].f0 ≠ id :=
  idI_neg id _ 0 h _ (List.mem_map_of_mem (List.getElem_mem hi))
theorem posK_gt {a b c d : Int} {K : List S51} (hM : fairM a b c d K = true) {id : Int} (hn : ¬ (atK id K ≥ 0)) {i : Nat} (hp : posK id K ≤ i) (hi : i < K.length) : K[i].f0 > id := by
  have h1 := posK_at id K (by omega)
  have h2 := atK_neg hn i hi
  rcases Nat.eq_or_lt_of_le hp with e | h
  · subst e; omega
  · have := (fair_at hM hi).2 _ h; omega
theorem iJoin_loop (id w a b c d : Int) (K : List S51) (hl : K.length ≤ 48) : ∀ n, n ≤ K.length → n ≤ posK id K → Ev (fun k => impl_FairJoin.l0 k id w (n : Int) a b c d K) (a, b, c, d, joinK id w K, 0) := by
  have hc : ∀ m : Nat, m = posK id K → ((impl_copyFair.f a b c d K).bind fun bt => if 0 ≤ (m : Int) then if (m : Int) ≤ (bt.2.2.2.2.length : Int) then if bt.2.2.2.2.length < 2932031007402 then some (bt.1, bt.2.1, bt.2.2.1, bt.2.2.2.1, bt.2.2.2.2.take (m : Int).toNat ++ ([(⟨id, w, false, (⟨0, 0, 0⟩ : S31)⟩ : S51)] ++ bt.2.2.2.2.drop (m : Int).toNat), (0 : Int)) else none else none else none) = some (a, b, c, d, joinK id w K, 0) := by
    intro m hm
    have hp := posK_le id K
    simp only [impl_copyFair.f, slices_Clone_impl_Kid_impl_Kid.f, Option.bind_some]
    rw [if_pos (by simp <;> omega)]
    simp only [Option.bind_some]
    rw [if_pos (by omega), if_pos (by simp <;> omega), if_pos (by simp <;> omega), Int.toNat_natCast, hm]
    simp [joinK, kidNew]
  refine down ?_ ?_
  · intro hp
    refine Ev.next (f := fun _ => some (a, b, c, d, joinK id w K, 0)) (Ev.now _) fun k => ?_
    simp only [impl_FairJoin.l0]
    rw [if_neg (by omega)]
    have := hc K.length (by have := posK_le id K; omega)
    simpa using this
  · intro n hn ih hp
    by_cases h : K[n].f0 < id
    · refine Ev.next (ih ?_) fun k => ?_
      · rcases Nat.eq_or_lt_of_le hp with e | h2
        · exact absurd h (by subst e; exact posK_at id K hn)
        · omega
      · simp only [impl_FairJoin.l0]; rw [if_pos (by omega), if_pos (by omega), rdK_nat K n hn, if_pos h, wrap_succ (by omega)]
    · refine Ev.next (f := fun _ => some (a, b, c, d, joinK id w K, 0)) (Ev.now _) fun k => ?_
      have e : n = posK id K := by
        rcases Nat.eq_or_lt_of_le hp with e | h2
        · exact e
        · exact absurd (posK_lt id K n h2 hn) h
      simp only [impl_FairJoin.l0]
      rw [if_pos (by omega), if_pos (by omega), rdK_nat K n hn, if_neg h]
      have := hc n e
      simp only [if_pos (show (0 : Int) ≤ (n : Int) by omega)] at this
      exact this
/-- The reference's row before its n-th round. -/
def accJ (id w : Int) (K : List S51) (n : Nat) : List S51 := if n ≤ posK id K then K.take n else K.take (posK id K) ++ ([kidNew id w] ++ (K.drop (posK id K)).take (n - posK id K))
theorem accJ_len (id w : Int) (K : List S51) (n : Nat) (hn : n ≤ K.length) : (accJ id w K n).length = if n ≤ posK id K then n else n + 1 := by
  have := posK_le id K
  unfold accJ
  split <;> simp <;> omega
theorem sJoin_loop (id w a b c d : Int) (K : List S51) (hl : K.length ≤ 48) (hM : fairM a b c d K = true) (hid : ¬ (atK id K ≥ 0)) : ∀ n, n ≤ K.length → Ev (fun k => spec_FairJoin.l0 k id (n : Int) a b c d K a b c d (accJ id w K n) id w false 0 0 0) (a, b, c, d, joinK id w K, 0) := by
  have hp := posK_le id K
  refine down ?_ ?_
  · refine Ev.next (f := fun _ => some (a, b, c, d, joinK id w K, 0)) (Ev.now _) fun k => ?_
    have hal := accJ_len id w K K.length (Nat.le_refl _)
    simp only [spec_FairJoin.l0]
    rw [if_neg (by omega)]
    by_cases e : K.length ≤ posK id K
    · rw [if_pos e] at hal
      rw [if_pos (by omega), if_pos (by omega)]
      have e2 : posK id K = K.length := by omega
      simp [accJ, joinK, e2, kidNew]
    · rw [if_neg e] at hal
      rw [if_neg (by omega)]
      have e2 : (K.drop (posK id K)).take (K.length - posK id K) = K.drop (posK id K) := List.take_of_length_le (by simp)
      simp [accJ, joinK, e, e2]
  · intro n hn ih
    have hal := accJ_len id w K n (by omega)
    have hlt : (accJ id w K n).length < 2932031007402 := by rw [hal]; split <;> omega
    rcases Nat.lt_trichotomy n (posK id K) with h | h | h
    · have e : accJ id w K (n + 1) = accJ id w K n ++ [K[n]] := by
        simp only [accJ, if_pos (show n ≤ posK id K by omega), if_pos (show n + 1 ≤ posK id K by omega), List.take_append_getElem hn]
      refine Ev.next ih fun k => ?_
      have h1 := posK_lt id K n h hn
      simp only [spec_FairJoin.l0]
      rw [if_pos (by omega), if_pos (by omega), rdK_nat K n hn, if_neg (by omega), if_pos hlt, wrap_succ (by omega), e]
    · have h1 := posK_gt hM hid (Nat.le_of_eq h.symm) hn
      have e : accJ id w K (n + 1) = (accJ id w K n ++ [kidNew id w]) ++ [K[n]] := by
        have e0 : posK id K = n := h.symm
        simp only [accJ, e0, if_pos (Nat.le_refl n), if_neg (show ¬ n + 1 ≤ n by omega), show n + 1 - n = 1 by omega]
        simp
        rw [List.drop_eq_getElem_cons hn, List.take_succ_cons, List.take_zero]
      have hl2 : (accJ id w K n ++ [(⟨id, w, false, (⟨0, 0, 0⟩ : S31)⟩ : S51)]).length < 2932031007402 := by rw [List.length_append, hal, if_pos (by omega)]; simp; omega
      refine Ev.next ih fun k => ?_
      simp only [spec_FairJoin.l0]
      rw [if_pos (by omega), if_pos (by omega), rdK_nat K n hn, if_pos h1]
      by_cases h0 : n = 0
      · rw [if_pos (by omega), if_pos hlt, Option.bind_some, if_pos hl2, wrap_succ (by omega), e]
        rfl
      · have h2 := posK_lt id K (n - 1) (by omega) (by omega)
        rw [if_neg (by omega), wrap_pred (by omega) (by omega), if_pos (by omega), if_pos (by omega), rdK_nat K (n - 1) (by omega), if_pos h2, if_pos hlt, Option.bind_some, if_pos hl2, wrap_succ (by omega), e]
        rfl
    · have h1 := posK_gt hM hid (Nat.le_of_lt h) hn
      have h2 := posK_gt hM hid (show posK id K ≤ n - 1 by omega) (show n - 1 < K.length by omega)
      have e : accJ id w K (n + 1) = accJ id w K n ++ [K[n]] := by
        simp only [accJ, if_neg (show ¬ n ≤ posK id K by omega), if_neg (show ¬ n + 1 ≤ posK id K by omega), show n + 1 - posK id K = (n - posK id K) + 1 by omega]
        rw [List.take_add_one, List.getElem?_drop, show posK id K + (n - posK id K) = n by omega, List.getElem?_eq_getElem hn]
        simp
      refine Ev.next ih fun k => ?_
      simp only [spec_FairJoin.l0]
      rw [if_pos (by omega), if_pos (by omega), rdK_nat K n hn, if_pos h1, if_neg (by omega), wrap_pred (by omega) (by omega), if_pos (by omega), if_pos (by omega), rdK_nat K (n - 1) (by omega), if_neg (by omega), if_pos hlt, wrap_succ (by omega), e]
theorem sJoin_ev (a b c d : Int) (K : List S51) (hl : K.length ≤ 1048576) (id w : Int) : Ev (fun k => spec_FairJoin.f k a b c d K id w) (joinT (joinF a b c d K id w)) := by
  have hbad : Ev (fun k => spec_FairJoin.j0 k id w true a b c d K) (0, 0, 0, 0, [], 1) := Ev.next (f := fun _ => some (0, 0, 0, 0, [], 1)) (Ev.now _) fun k => by simp only [spec_FairJoin.j0, if_true]
  unfold spec_FairJoin.f joinF
  refine Ev.bind (sFair_ev a b c d K hl) ?_
  cases hM : fairM a b c d K with
  | false => exact Ev.to hbad (by simp [joinT, zF])
  | true =>
    simp only [if_true]
    have h48 := fair_len hM
    by_cases h1 : 0 ≤ id ∧ id ≤ 9999
    · simp only [if_neg (show ¬ id < 0 by omega), if_neg (show ¬ id > 9999 by omega), sStride_eq, Option.bind_some, if_pos h1]
      by_cases h3 : 1 ≤ w ∧ w ≤ 10
      · have h4 : (stride w == 0) = false := beq_eq_false_iff_ne.2 fun e => absurd h3 ((stride_zero w).1 e)
        rw [h4, if_pos h3]
        refine Ev.next (f := fun k => (spec_l18At.f k a b c d K id).bind fun t => if t ≥ 0 then some (0, 0, 0, 0, [], 2) else if (K.length : Int) = 48 then some (0, 0, 0, 0, [], 3) else spec_FairJoin.l0 k id 0 a b c d K a b c d [] id w false 0 0 0) ?_ fun k => by simp only [spec_FairJoin.j0, if_neg (show ¬ (false = true) by decide)]
        refine Ev.bind (sAtK_ev id a b c d K hl) ?_
        by_cases h5 : atK id K ≥ 0
        · simp only [if_pos h5]; exact Ev.now' fun k => by simp [joinT, zF]
        · simp only [if_neg h5]
          by_cases h6 : (K.length : Int) = 48
          · simp only [if_pos h6]; exact Ev.now' fun k => by simp [joinT, zF]
          · simp only [if_neg h6]
            have := sJoin_loop id w a b c d K h48 hM h5 0 (by omega)
            simpa [accJ, joinT] using this
      · have h4 : (stride w == 0) = true := beq_iff_eq.2 ((stride_zero w).2 h3)
        rw [h4, if_neg h3]
        exact Ev.to hbad (by simp [joinT, zF])
    · rw [if_neg h1]
      by_cases h2 : id < 0
      · simp only [if_pos h2]; exact Ev.to hbad (by simp [joinT, zF])
      · simp only [if_neg h2, if_pos (show id > 9999 by omega)]; exact Ev.to hbad (by simp [joinT, zF])
theorem iJoin_ev (a b c d : Int) (K : List S51) (hl : K.length ≤ 1048576) (id w : Int) : Ev (fun k => impl_FairJoin.f k a b c d K id w) (joinT (joinF a b c d K id w)) := by
  have hbad : Ev (fun k => impl_FairJoin.j0 k id w true a b c d K) (0, 0, 0, 0, [], 1) := Ev.next (f := fun _ => some (0, 0, 0, 0, [], 1)) (Ev.now _) fun k => by simp only [impl_FairJoin.j0, if_true]
  unfold impl_FairJoin.f joinF
  refine Ev.bind (iFair_ev a b c d K hl) ?_
  cases hM : fairM a b c d K with
  | false => exact Ev.to hbad (by simp [joinT, zF])
  | true =>
    simp only [if_true]
    have h48 := fair_len hM
    have hfl : impl_isFlow.f id = some (decide (0 ≤ id ∧ id ≤ 9999)) := by unfold impl_isFlow.f; rw [within_eq]; rfl
    rw [hfl]
    simp only [Option.bind_some]
    by_cases h1 : 0 ≤ id ∧ id ≤ 9999
    · rw [decide_eq_true h1, if_pos h1]
      simp only [if_true, isWeight_eq, Option.bind_some]
      by_cases h3 : 1 ≤ w ∧ w ≤ 10
      · rw [decide_eq_true h3, if_pos h3]
        refine Ev.next (f := fun k => (impl_Fair_at.f k a b c d K id).bind fun t => if t ≥ 0 then some (0, 0, 0, 0, [], 2) else if (K.length : Int) = 48 then some (0, 0, 0, 0, [], 3) else impl_FairJoin.l0 k id w 0 a b c d K) ?_ fun k => by simp only [impl_FairJoin.j0, Bool.not_true, if_neg (show ¬ (false = true) by decide)]
        refine Ev.bind (iAtK_ev id a b c d K hl) ?_
        by_cases h5 : atK id K ≥ 0
        · simp only [if_pos h5]; exact Ev.now' fun k => by simp [joinT, zF]
        · simp only [if_neg h5]
          by_cases h6 : (K.length : Int) = 48
          · simp only [if_pos h6]; exact Ev.now' fun k => by simp [joinT, zF]
          · simp only [if_neg h6]
            have := iJoin_loop id w a b c d K h48 0 (by omega) (by omega)
            simpa [joinT] using this
      · rw [decide_eq_false h3, if_neg h3]
        exact Ev.to hbad (by simp [joinT, zF])
    · rw [decide_eq_false h1, if_neg h1]
      exact Ev.to hbad (by simp [joinT, zF])

theorem sAll_loop (a b c d a' b' c' d' : Int) (K K' : List S51) (B : List S54) (hl : B.length ≤ 1048576) (hx : ∀ x ∈ B, x.f1.f2.length ≤ 1048576) (f0 f1 f2 f3 : Int) (F : List S51) : ∀ n, n ≤ B.length → ∀ acc : List S54, acc.length ≤ n → Ev (fun k => spec_l20With.l0 k (-1) (n : Int) a b c d K B f0 f1 f2 f3 F a' b' c' d' K' acc) (a', b', c', d', K', acc ++ B.drop n) := by
  refine down ?_ ?_
  · intro acc ha
    refine Ev.to (Ev.next (f := fun _ => some (a', b', c', d', K', acc)) (Ev.now _) fun k => ?_) (by simp)
    simp only [spec_l20With.l0]; rw [if_neg (by omega)]
  · intro n hn ih acc ha
    have hb := hx _ (List.getElem_mem hn)
    refine Ev.to (Ev.next (ih (acc ++ [B[n]]) (by simp; omega)) fun k => ?_) (by rw [List.drop_eq_getElem_cons hn]; simp)
    simp only [spec_l20With.l0]
    rw [if_pos (by omega), if_pos (by omega), rdB_nat B n hn]
    simp only [spec_l18Copy.f, Option.bind_some]
    rw [if_pos (by simp <;> omega)]
    simp only [Option.bind_some, if_neg (show ¬ ((n : Int) = -1) by omega), if_pos (show acc.length < 2199023255552 by omega), wrap_succ (show n < 4611686018427387904 by omega), List.nil_append]
theorem sAll_ev (a b c d : Int) (K : List S51) (B : List S54) (hk : K.length ≤ 1048576) (hl : B.length ≤ 1048576) (hx : ∀ x ∈ B, x.f1.f2.length ≤ 1048576) : Ev (fun k => spec_l20With.f k a b c d K B a b c d K (-1) 0 0 0 0 []) (a, b, c, d, K, B) := by
  refine Ev.to (Ev.congr (fun k => ?_) (sAll_loop a b c d a b c d K K B hl hx 0 0 0 0 [] 0 (by omega) [] (by simp))) (by simp)
  unfold spec_l20With.f
  simp only [spec_l18Copy.f, Option.bind_some]
  rw [if_pos (by simp <;> omega)]
  simp

def newF (d : Int) : S34 := if 0 ≤ d ∧ d ≤ 10000000 then ⟨d, ⟨0, 0, 0⟩, []⟩ else ⟨0, ⟨0, 0, 0⟩, []⟩
theorem sNew_eq (d : Int) : spec_FairNew.f d = some ((newF d).f0, 0, 0, 0, []) := by
  unfold newF spec_FairNew.f spec_l13Delta.f
  by_cases h0 : d ≥ 0
  · by_cases h1 : d ≤ 10000000
    · simp [h0, h1]
    · simp [h0, h1]
  · simp [h0]
theorem iNew_eq (d : Int) : impl_FairNew.f d = some ((newF d).f0, 0, 0, 0, []) := by
  unfold newF impl_FairNew.f impl_isDelta.f impl_within.f
  by_cases h0 : d ≥ 0
  · by_cases h1 : d ≤ 10000000
    · simp [h0, h1]
    · simp [h0, h1]
  · simp [h0]
theorem newF_eta (d : Int) : (⟨(newF d).f0, (⟨0, 0, 0⟩ : S31), []⟩ : S34) = newF d := by unfold newF; split <;> rfl
theorem newF_len (d : Int) : (newF d).f2.length ≤ 1048576 := by unfold newF; split <;> simp
def tenB (id a : Int) (K : List S51) (B : List S54) : List S54 := B.take (posK id K) ++ ([⟨id, newF a⟩] ++ B.drop (posK id K))
def treeTenantM (a b c d : Int) (K : List S51) (B : List S54) (id w : Int) : (S34 × List S54) × Int :=
  if treeM a b c d K B = true then (if (joinF a b c d K id w).2 = 0 then (((joinF a b c d K id w).1, tenB id a K B), 0) else ((zF, []), (joinF a b c d K id w).2)) else ((zF, []), 1)
def treeT (x : (S34 × List S54) × Int) : Int × Int × Int × Int × List S51 × List S54 × Int := (x.1.1.f0, x.1.1.f1.f0, x.1.1.f1.f1, x.1.1.f1.f2, x.1.1.f2, x.1.2, x.2)
theorem joinF_ok {a b c d : Int} {K : List S51} {id w : Int} (h : (joinF a b c d K id w).2 = 0) : fairM a b c d K = true ∧ ¬ (atK id K ≥ 0) ∧ joinF a b c d K id w = (⟨a, ⟨b, c, d⟩, joinK id w K⟩, 0) := by
  unfold joinF at h ⊢
  by_cases hM : fairM a b c d K = true
  · rw [if_pos hM] at h ⊢
    by_cases h1 : 0 ≤ id ∧ id ≤ 9999
    · rw [if_pos h1] at h ⊢
      by_cases h2 : 1 ≤ w ∧ w ≤ 10
      · rw [if_pos h2] at h ⊢
        by_cases h3 : atK id K ≥ 0
        · rw [if_pos h3] at h; cases h
        · rw [if_neg h3] at h ⊢
          by_cases h4 : (K.length : Int) = 48
          · rw [if_pos h4] at h; cases h
          · rw [if_neg h4]; exact ⟨hM, h3, rfl⟩
      · rw [if_neg h2] at h; cases h
    · rw [if_neg h1] at h; cases h
  · rw [if_neg hM] at h; cases h
theorem joinK_lt {id w : Int} {K : List S51} {i : Nat} (h : i < posK id K) (hi : i < (joinK id w K).length) : (joinK id w K)[i] = K[i]'(by have := posK_le id K; omega) := by
  have := posK_le id K
  have h2 : (joinK id w K)[i]? = K[i]? := by
    unfold joinK
    rw [List.getElem?_append_left (by simp; omega), List.getElem?_take, if_pos h]
  rw [List.getElem?_eq_getElem hi, List.getElem?_eq_getElem (by omega)] at h2
  exact Option.some.inj h2
theorem joinK_at {id w : Int} {K : List S51} (hi : posK id K < (joinK id w K).length) : (joinK id w K)[posK id K] = kidNew id w := by
  have := posK_le id K
  have hx : (K.take (posK id K)).length = posK id K := by simp; omega
  have h2 : (joinK id w K)[posK id K]? = some (kidNew id w) := by
    unfold joinK
    rw [List.getElem?_append_right (by omega), hx, Nat.sub_self]
    rfl
  rw [List.getElem?_eq_getElem hi] at h2
  exact Option.some.inj h2
theorem joinK_gt {id w : Int} {K : List S51} {i : Nat} (h : posK id K < i) (hi : i < (joinK id w K).length) : (joinK id w K)[i] = K[i - 1]'(by have := joinK_len id w K; omega) := by
  have := posK_le id K
  have hx : (K.take (posK id K)).length = posK id K := by simp; omega
  have h2 : (joinK id w K)[i]? = K[i - 1]? := by
    unfold joinK
    rw [List.getElem?_append_right (by omega), hx, List.getElem?_append_right (by simp; omega)]
    simp only [List.length_singleton, List.getElem?_drop]
    congr 1
    omega
  rw [List.getElem?_eq_getElem hi, List.getElem?_eq_getElem (by have := joinK_len id w K; omega)] at h2
  exact Option.some.inj h2
/-- Where an id stands in a row in which it stands once. -/
theorem idI_of (id : Int) : ∀ (l : List Int) (n j : Nat) (hj : j < l.length), l[j] = id → (∀ i (hi : i < j), l[i]'(by omega) ≠ id) → idI id l n = ((n + j : Nat) : Int)
  | x :: t, n, 0, _, h, _ => by
    unfold idI
    rw [if_pos (by simpa using h)]
    simp
  | x :: t, n, j + 1, hj, h, hh => by
    have h0 := hh 0 (by omega)
    unfold idI
    rw [if_neg (by simpa using h0), idI_of id t (n + 1) j (by simpa using hj) (by simpa using h) fun i hi => by simpa using hh (i + 1) (by omega)]
    congr 1
    omega
theorem atB_of {a b c d : Int} {K : List S51} {B : List S54} (hM : treeM a b c d K B = true) {m : Nat} (hm : m < K.length) : atB K[m].f0 B = (m : Int) ∧ m < B.length := by
  obtain ⟨hf, el, hh⟩ := tree_at hM
  have hb : m < B.length := by omega
  refine ⟨?_, hb⟩
  have := idI_of K[m].f0 (B.map (fun x => x.f0)) 0 m (by simpa using hb) (by rw [List.getElem_map]; exact hh m hb) fun i hi => by
    rw [List.getElem_map, hh i (by omega)]
    have := (fair_at hf hm).2 i hi
    omega
  rw [Nat.zero_add] at this
  exact this
theorem atK_join {a b c d : Int} {K : List S51} (_hf : fairM a b c d K = true) (id w : Int) : atK id (joinK id w K) = (posK id K : Int) := by
  have hp := posK_le id K
  have hl := joinK_len id w K
  have := idI_of id ((joinK id w K).map (fun x => x.f0)) 0 (posK id K) (by simp; omega) (by rw [List.getElem_map, joinK_at (by omega)]; rfl) fun i hi => by
    rw [List.getElem_map, joinK_lt hi (by omega)]
    have := posK_lt id K i hi (by omega)
    omega
  rw [Nat.zero_add] at this
  exact this
def accT (id a : Int) (K : List S51) (B : List S54) (n : Nat) : List S54 := if n ≤ posK id K then B.take n else B.take (posK id K) ++ ([⟨id, newF a⟩] ++ (B.drop (posK id K)).take (n - posK id K - 1))
theorem sTen_loop (id w a b c d : Int) (K : List S51) (B : List S54) (hl : B.length ≤ 1048576) (hM : treeM a b c d K B = true) (hid : ¬ (atK id K ≥ 0)) : ∀ n, n ≤ (joinK id w K).length → Ev (fun k => spec_TreeTenant.l0 k id (n : Int) a b c d K B a b c d (joinK id w K) a b c d (joinK id w K) (accT id a K B n) a b c d K B) (a, b, c, d, joinK id w K, tenB id a K B, 0) := by
  obtain ⟨hf, el, hh⟩ := tree_at hM
  have hp := posK_le id K
  have hjl := joinK_len id w K
  have h48 := fair_len hf
  refine down ?_ ?_
  · refine Ev.next (f := fun _ => some (a, b, c, d, joinK id w K, tenB id a K B, 0)) (Ev.now _) fun k => ?_
    simp only [spec_TreeTenant.l0]
    rw [if_neg (by omega)]
    have e2 : (B.drop (posK id K)).take ((joinK id w K).length - posK id K - 1) = B.drop (posK id K) := List.take_of_length_le (by simp; omega)
    simp only [accT, if_neg (show ¬ (joinK id w K).length ≤ posK id K by omega), e2, tenB]
  · intro n hn ih
    have hal : (accT id a K B n).length ≤ n := by unfold accT; split <;> simp <;> omega
    rcases Nat.lt_trichotomy n (posK id K) with h | h | h
    · have hk : (joinK id w K)[n] = K[n]'(by omega) := joinK_lt h hn
      have h1 := posK_lt id K n h (by omega)
      obtain ⟨ha, hb⟩ := atB_of hM (show n < K.length by omega)
      have e : accT id a K B (n + 1) = accT id a K B n ++ [B[n]] := by
        simp only [accT, if_pos (show n ≤ posK id K by omega), if_pos (show n + 1 ≤ posK id K by omega), List.take_append_getElem hb]
      refine Ev.next (f := fun k => (spec_l20At.f k a b c d K B K[n].f0).bind fun t => if 0 ≤ t then if t < (B.length : Int) then if (accT id a K B n).length < 2199023255552 then spec_TreeTenant.l0 k id ((n + 1 : Nat) : Int) a b c d K B a b c d (joinK id w K) a b c d (joinK id w K) (accT id a K B n ++ [rd_T54 B t]) a b c d K B else none else none else none) ?_ fun k => ?_
      · refine Ev.bind (sAtB_ev _ a b c d K B hl) ?_
        rw [ha]
        simp only [if_pos (show (0 : Int) ≤ (n : Int) by omega), if_pos (show (n : Int) < (B.length : Int) by omega), if_pos (show (accT id a K B n).length < 2199023255552 by omega), rdB_nat B n hb, ← e]
        exact ih
      · simp only [spec_TreeTenant.l0]
        rw [if_pos (by omega), if_pos (by omega), rdK_nat _ n hn, hk, if_neg (by omega), wrap_succ (by omega)]
    · have hk : (joinK id w K)[n] = kidNew id w := by subst h; exact joinK_at hn
      have e : accT id a K B (n + 1) = accT id a K B n ++ [⟨id, newF a⟩] := by
        have e0 : posK id K = n := h.symm
        simp only [accT, e0, if_pos (Nat.le_refl n), if_neg (show ¬ n + 1 ≤ n by omega), show n + 1 - n - 1 = 0 by omega]
        simp
      refine Ev.next ih fun k => ?_
      simp only [spec_TreeTenant.l0]
      rw [if_pos (by omega), if_pos (by omega), rdK_nat _ n hn, hk, if_pos (by rfl), sNew_eq, Option.bind_some, if_pos (by omega), wrap_succ (by omega), e, ← newF_eta a]
    · have hk : (joinK id w K)[n] = K[n - 1]'(by omega) := joinK_gt h hn
      have h1 := posK_gt hf hid (show posK id K ≤ n - 1 by omega) (show n - 1 < K.length by omega)
      obtain ⟨ha, hb⟩ := atB_of hM (show n - 1 < K.length by omega)
      have e : accT id a K B (n + 1) = accT id a K B n ++ [B[n - 1]] := by
        simp only [accT, if_neg (show ¬ n ≤ posK id K by omega), if_neg (show ¬ n + 1 ≤ posK id K by omega), show n + 1 - posK id K - 1 = (n - posK id K - 1) + 1 by omega]
        rw [List.take_add_one, List.getElem?_drop, show posK id K + (n - posK id K - 1) = n - 1 by omega, List.getElem?_eq_getElem hb]
        simp
      refine Ev.next (f := fun k => (spec_l20At.f k a b c d K B K[n - 1].f0).bind fun t => if 0 ≤ t then if t < (B.length : Int) then if (accT id a K B n).length < 2199023255552 then spec_TreeTenant.l0 k id ((n + 1 : Nat) : Int) a b c d K B a b c d (joinK id w K) a b c d (joinK id w K) (accT id a K B n ++ [rd_T54 B t]) a b c d K B else none else none else none) ?_ fun k => ?_
      · refine Ev.bind (sAtB_ev _ a b c d K B hl) ?_
        rw [ha]
        simp only [if_pos (show (0 : Int) ≤ ((n - 1 : Nat) : Int) by omega), if_pos (show ((n - 1 : Nat) : Int) < (B.length : Int) by omega), if_pos (show (accT id a K B n).length < 2199023255552 by omega), rdB_nat B (n - 1) hb, ← e]
        exact ih
      · simp only [spec_TreeTenant.l0]
        rw [if_pos (by omega), if_pos (by omega), rdK_nat _ n hn, hk, if_neg (by omega), wrap_succ (by omega)]
theorem sTreeTenant_ev (a b c d : Int) (K : List S51) (B : List S54) (hk : K.length ≤ 1048576) (hl : B.length ≤ 1048576) (hx : ∀ x ∈ B, x.f1.f2.length ≤ 1048576) (id w : Int) : Ev (fun k => spec_TreeTenant.f k a b c d K B id w) (treeT (treeTenantM a b c d K B id w)) := by
  unfold spec_TreeTenant.f treeTenantM
  refine Ev.bind (sTree_ev a b c d K B hk hl hx) ?_
  cases hM : treeM a b c d K B with
  | false => exact Ev.now' fun k => by simp [treeT, zF]
  | true =>
    simp only [if_true]
    refine Ev.bind (sJoin_ev a b c d K hk id w) ?_
    by_cases h0 : (joinF a b c d K id w).2 = 0
    · obtain ⟨hf, hid, ej⟩ := joinF_ok h0
      rw [ej]
      simp only [joinT, if_true]
      refine Ev.bind (sAll_ev a b c d K B hk hl hx) ?_
      have := sTen_loop id w a b c d K B hl hM hid 0 (by omega)
      simpa [accT, treeT] using this
    · rw [if_neg h0]
      exact Ev.now' fun k => by simp [joinT, treeT, zF, h0]
theorem iTreeTenant_ev (a b c d : Int) (K : List S51) (B : List S54) (hk : K.length ≤ 1048576) (hl : B.length ≤ 1048576) (hx : ∀ x ∈ B, x.f1.f2.length ≤ 1048576) (id w : Int) : Ev (fun k => impl_TreeTenant.f k a b c d K B id w) (treeT (treeTenantM a b c d K B id w)) := by
  unfold impl_TreeTenant.f treeTenantM
  refine Ev.bind (iTree_ev a b c d K B hk hl hx) ?_
  cases hM : treeM a b c d K B with
  | false => exact Ev.now' fun k => by simp [treeT, zF]
  | true =>
    simp only [if_true]
    refine Ev.bind (iJoin_ev a b c d K hk id w) ?_
    by_cases h0 : (joinF a b c d K id w).2 = 0
    · obtain ⟨hf, hid, ej⟩ := joinF_ok h0
      obtain ⟨_, el, _⟩ := tree_at hM
      have hp := posK_le id K
      have h48 := fair_len hf
      have hjl := joinK_len id w K
      rw [ej]
      simp only [joinT, if_true]
      refine Ev.bind (iCopyTree_ev a b c d K B hk hl hx) (Ev.bind (iAtK_ev id a b c d _ (by omega)) ?_)
      rw [atK_join hf id w]
      simp only [iNew_eq, Option.bind_some, if_pos (show (0 : Int) ≤ (posK id K : Int) by omega), if_pos (show (posK id K : Int) ≤ (B.length : Int) by omega), if_pos (show B.length < 2199023255552 by omega)]
      exact Ev.now' fun k => by simp [treeT, tenB, newF_eta]
    · rw [if_neg h0]
      exact Ev.now' fun k => by simp [joinT, treeT, zF, h0]
theorem treeTenant_len (a b c d : Int) (K : List S51) (B : List S54) (hk : K.length ≤ 1048576) (hl : B.length ≤ 1048576) (hx : ∀ x ∈ B, x.f1.f2.length ≤ 1048576) (id w : Int) : (treeTenantM a b c d K B id w).1.1.f2.length ≤ 1048576 ∧ (treeTenantM a b c d K B id w).1.2.length ≤ 1048576 ∧ ∀ x ∈ (treeTenantM a b c d K B id w).1.2, x.f1.f2.length ≤ 1048576 := by
  unfold treeTenantM
  by_cases hM : treeM a b c d K B = true
  · rw [if_pos hM]
    by_cases h0 : (joinF a b c d K id w).2 = 0
    · rw [if_pos h0]
      obtain ⟨hf, el, _⟩ := tree_at hM
      have h48 := fair_len hf
      have hp := posK_le id K
      refine ⟨joinF_len _ _ _ _ _ _ _, by simp [tenB]; omega, fun x hx2 => ?_⟩
      simp only [tenB, List.mem_append, List.mem_singleton] at hx2
      rcases hx2 with h | h | h
      · exact hx x (List.mem_of_mem_take h)
      · rw [h]; exact newF_len a
      · exact hx x (List.mem_of_mem_drop h)
    · rw [if_neg h0]; simp [zF]
  · rw [if_neg hM]; simp [zF]
theorem FnExactTreeTenant : laws_FnExactTreeTenant.Pure := by
  intro y0 y1 y2 hy0 _ _
  refine Ev.rounds ?_
  obtain ⟨s, hs, hd⟩ := szTree_ev y0 hy0
  unfold laws_FnExactTreeTenant.f
  refine Ev.bind hs ?_
  rcases hd with hd | hd
  · exact Ev.now' fun k => if_pos hd
  · by_cases hn : s < 0
    · exact Ev.now' fun k => if_pos hn
    · simp only [if_neg hn]
      have hT := toTree_ev y0 hd
      have h1 : (y0.f0.f2.map toK).length ≤ 1048576 := by simpa using hd.1
      have h2 : (y0.f1.map toB).length ≤ 1048576 := by simpa using hd.2.1
      have h3 := toB_len hd.2.2
      have hI := iTreeTenant_ev y0.f0.f0 y0.f0.f1.f0 y0.f0.f1.f1 y0.f0.f1.f2 _ _ h1 h2 h3 y1 y2
      refine Ev.bind hT (Ev.bind (sTreeTenant_ev _ _ _ _ _ _ h1 h2 h3 y1 y2) (Ev.bind hT (Ev.bind hI ?_)))
      have g := treeTenant_len y0.f0.f0 y0.f0.f1.f0 y0.f0.f1.f1 y0.f0.f1.f2 _ _ h1 h2 h3 y1 y2
      generalize treeTenantM y0.f0.f0 y0.f0.f1.f0 y0.f0.f1.f1 y0.f0.f1.f2 (y0.f0.f2.map toK) (y0.f1.map toB) y1 y2 = R at hI g
      have hE := eqTree_ev R.1.1.f0 R.1.1.f1.f0 R.1.1.f1.f1 R.1.1.f1.f2 R.1.1.f2 R.1.2 g.1 g.2.1 g.2.2
      have hM := markTree_ev R.1.1.f0 R.1.1.f1.f0 R.1.1.f1.f1 R.1.1.f1.f2 R.1.1.f2 R.1.2 g.1 g.2.1 g.2.2
      have hH := heldTree_ev R.1.1.f0 R.1.1.f1.f0 R.1.1.f1.f1 R.1.1.f1.f2 R.1.1.f2 R.1.2 g.1 g.2.1 g.2.2
      simp only [treeT] at hI ⊢
      refine Ev.bind hE ?_
      simp only [if_true, bne_self_eq_false]
      refine Ev.next (f := fun k => (laws_toTree.f k y0.f0.f0 y0.f0.f1.f0 y0.f0.f1.f1 y0.f0.f1.f2 y0.f0.f2 y0.f1).bind fun x => (laws_eqTree.f k y0.f0.f0 y0.f0.f1.f0 y0.f0.f1.f1 y0.f0.f1.f2 (y0.f0.f2.map toK) (y0.f1.map toB) x.1 x.2.1 x.2.2.1 x.2.2.2.1 x.2.2.2.2.1 x.2.2.2.2.2).bind fun t => if t = true then (laws_markTree.f k y0.f0.f0 y0.f0.f1.f0 y0.f0.f1.f1 y0.f0.f1.f2 (y0.f0.f2.map toK) (y0.f1.map toB) 1).bind fun bt => (if bt.1 < 0 then laws_FnExactTreeTenant.j1 k y1 y2 R.2 true y0.f0.f0 y0.f0.f1.f0 y0.f0.f1.f1 y0.f0.f1.f2 y0.f0.f2 y0.f1 R.1.1.f0 R.1.1.f1.f0 R.1.1.f1.f1 R.1.1.f1.f2 R.1.1.f2 R.1.2 R.1.1.f0 R.1.1.f1.f0 R.1.1.f1.f1 R.1.1.f1.f2 R.1.1.f2 R.1.2 else (laws_eqTree.f k R.1.1.f0 R.1.1.f1.f0 R.1.1.f1.f1 R.1.1.f1.f2 R.1.1.f2 R.1.2 R.1.1.f0 R.1.1.f1.f0 R.1.1.f1.f1 R.1.1.f1.f2 R.1.1.f2 R.1.2).bind fun u => if u = true then laws_FnExactTreeTenant.j1 k y1 y2 R.2 (R.2 != R.2) y0.f0.f0 y0.f0.f1.f0 y0.f0.f1.f1 y0.f0.f1.f2 y0.f0.f2 y0.f1 R.1.1.f0 R.1.1.f1.f0 R.1.1.f1.f1 R.1.1.f1.f2 R.1.1.f2 R.1.2 R.1.1.f0 R.1.1.f1.f0 R.1.1.f1.f1 R.1.1.f1.f2 R.1.1.f2 R.1.2 else laws_FnExactTreeTenant.j1 k y1 y2 R.2 true y0.f0.f0 y0.f0.f1.f0 y0.f0.f1.f1 y0.f0.f1.f2 y0.f0.f2 y0.f1 R.1.1.f0 R.1.1.f1.f0 R.1.1.f1.f1 R.1.1.f1.f2 R.1.1.f2 R.1.2 R.1.1.f0 R.1.1.f1.f0 R.1.1.f1.f1 R.1.1.f1.f2 R.1.1.f2 R.1.2) else some false) ?_ fun k => by simp only [laws_FnExactTreeTenant.j0, if_neg (show ¬ (false = true) by decide)]
      refine Ev.bind hT (Ev.bind (eqTree_ev _ _ _ _ _ _ h1 h2 h3) ?_)
      simp only [if_true]
      refine Ev.bind (markTree_ev _ _ _ _ _ _ h1 h2 h3) ?_
      simp only [if_neg (endT_pos _ _)]
      refine Ev.bind hE ?_
      simp only [if_true, bne_self_eq_false]
      refine Ev.next (f := fun k => (laws_markTree.f k R.1.1.f0 R.1.1.f1.f0 R.1.1.f1.f1 R.1.1.f1.f2 R.1.1.f2 R.1.2 1).bind fun bt => (laws_heldTree.f k R.1.1.f0 R.1.1.f1.f0 R.1.1.f1.f1 R.1.1.f1.f2 bt.2.1 bt.2.2 1).bind fun t => if t < 0 then some false else if t = bt.1 then (laws_toTree.f k y0.f0.f0 y0.f0.f1.f0 y0.f0.f1.f1 y0.f0.f1.f2 y0.f0.f2 y0.f1).bind fun x => (impl_TreeTenant.f k x.1 x.2.1 x.2.2.1 x.2.2.2.1 x.2.2.2.2.1 x.2.2.2.2.2 y1 y2).bind fun z => (laws_eqTree.f k z.1 z.2.1 z.2.2.1 z.2.2.2.1 z.2.2.2.2.1 z.2.2.2.2.2.1 R.1.1.f0 R.1.1.f1.f0 R.1.1.f1.f1 R.1.1.f1.f2 R.1.1.f2 R.1.2).bind fun u => if u = true then laws_FnExactTreeTenant.j2 k bt.1 (z.2.2.2.2.2.2 != R.2) R.1.1.f0 R.1.1.f1.f0 R.1.1.f1.f1 R.1.1.f1.f2 bt.2.1 bt.2.2 else laws_FnExactTreeTenant.j2 k bt.1 true R.1.1.f0 R.1.1.f1.f0 R.1.1.f1.f1 R.1.1.f1.f2 bt.2.1 bt.2.2 else some false) ?_ fun k => by simp only [laws_FnExactTreeTenant.j1, if_neg (show ¬ (false = true) by decide)]
      refine Ev.bind hM (Ev.bind hH ?_)
      simp only [if_neg (endT_pos R.1.1.f2 R.1.2), if_true]
      refine Ev.bind hT (Ev.bind hI (Ev.bind hE ?_))
      simp only [if_true, bne_self_eq_false]
      refine Ev.next (f := fun k => (laws_heldTree.f k R.1.1.f0 R.1.1.f1.f0 R.1.1.f1.f1 R.1.1.f1.f2 (marksK 1 R.1.1.f2) (marksB (1 + 6 * (R.1.1.f2.length : Int)) R.1.2) 1).bind fun v => if v < 0 then some false else if v = endT R.1.1.f2 R.1.2 then some true else some false) ?_ fun k => by simp only [laws_FnExactTreeTenant.j2, if_neg (show ¬ (false = true) by decide)]
      refine Ev.bind hH ?_
      simp only [if_neg (endT_pos R.1.1.f2 R.1.2), if_true]
      exact Ev.now _

end Go.Proofs.Ytjfknflhajeglab.Pure
