/- The program's TreeServe returns what the reference's TreeServe returns, for every tree, charge and bool (trees of which the law's own count speaks: any other answers true at once); it writes into nothing that came in, and its answer's memory is its own. No condition. -/
import Derived.Test.YtjhgkonacdimfacPFnExactTreeServex20
namespace Go.Proofs.Ytjhgkonacdimfac.Pure
open Go.RowKit Go.Proofs.Ytjhgkonacdimfac.PFnExactTreeServe Go.Proofs.YtjhgkonacdimfacW.PrintWords Go.Proofs.YtjhgkonacdimfacW.PrintLast Go.Proofs.YtjhgkonacdimfacW.PrintMore Go.Proofs.YtjhgkonacdimfacV
set_option linter.unusedVariables false
set_option linter.unusedSimpArgs false

theorem down {N : Nat} {P : Nat → Prop} (h0 : P N) (hs : ∀ n, n < N → P (n + 1) → P n) : ∀ n, n ≤ N → P n := by
  intro n hn
  obtain ⟨d, rfl⟩ : ∃ d, N = n + d := ⟨N - n, by omega⟩
  clear hn
  induction d generalizing n with
  | zero => exact h0
  | succ d ih => exact hs n (by omega) (ih (n + 1) (by rw [show n + 1 + d = n + (d + 1) by omega]; exact h0) (fun m hm hp => hs m (by omega) hp))

theorem qa5_ {x : Int} (h1 : -9223372036854775808 ≤ x) (h2 : x ≤ 9223372036854775807) : wrap64 x = x := by
  unfold wrap64; omega

theorem q5_ {n : Nat} (h : n < 4611686018427387904) : wrap64 ((n : Int) + 1) = ((n + 1 : Nat) : Int) := by
  rw [qa5_ (by omega) (by omega)]; omega

theorem wrap_pred {n : Nat} (h0 : 0 < n) (h : n < 4611686018427387904) : wrap64 ((n : Int) - 1) = ((n - 1 : Nat) : Int) := by
  rw [qa5_ (by omega) (by omega)]; omega

theorem qay_ {α : Type} {l : List α} {n : Nat} (d : α) (h : n < l.length) : l.getD n d = l[n] := by
  rw [List.getD_eq_getElem?_getD, List.getElem?_eq_getElem h]; rfl

theorem rd_nat (l : List Int) (n : Nat) : rd l (n : Int) = l.getD n 0 := by
  unfold rd; simp

theorem Ev.now' {α : Type} {g : Nat → Option α} {r : α} (h : ∀ k, g k = some r) : Ev g r := ⟨0, fun k _ => h k⟩

/-- One round, and what follows. -/
theorem Ev.next {α : Type} {g f : Nat → Option α} {r : α} (k : Ev f r) (h : ∀ k, g (k + 1) = f k) : Ev g r := Ev.step h k

theorem Ev.to {α : Type} {g : Nat → Option α} {r q : α} (h : Ev g r) (e : r = q) : Ev g q := e ▸ h

theorem list_drop_cons {α : Type} {l : List α} {n : Nat} (h : n < l.length) : l.drop n = l[n] :: l.drop (n + 1) := List.drop_eq_getElem_cons h

theorem mem_drop {α : Type} {l : List α} {n : Nat} (h : n < l.length) {x : α} : x ∈ l.drop n ↔ x = l[n] ∨ x ∈ l.drop (n + 1) := by
  rw [List.drop_eq_getElem_cons h, List.mem_cons]

theorem any_drop {α : Type} {l : List α} {n : Nat} (h : n < l.length) (q : α → Bool) : (l.drop n).any q = (q l[n] || (l.drop (n + 1)).any q) := by
  rw [List.drop_eq_getElem_cons h, List.any_cons]

theorem all_drop {α : Type} {l : List α} {n : Nat} (h : n < l.length) (q : α → Bool) : (l.drop n).all q = (q l[n] && (l.drop (n + 1)).all q) := by
  rw [List.drop_eq_getElem_cons h, List.all_cons]

theorem dec_false {p : Prop} [Decidable p] (h : ¬ p) : false = decide p := (decide_eq_false h).symm
theorem dec_true {p : Prop} [Decidable p] (h : p) : true = decide p := (decide_eq_true h).symm
theorem dec_iff {p q : Prop} [Decidable p] [Decidable q] (h : p ↔ q) : decide p = decide q := decide_eq_decide.2 h

theorem rdLK_nat (l : List S100) (n : Nat) (h : n < l.length) : qan_ l (n : Int) = l[n] := by
  unfold qan_; rw [Int.toNat_natCast, qay_ _ h]
theorem q6_ (l : List S75) (n : Nat) (h : n < l.length) : qb_ l (n : Int) = l[n] := by
  unfold qb_; rw [Int.toNat_natCast, qay_ _ h]
theorem rdLB_nat (l : List S72) (n : Nat) (h : n < l.length) : q8_ l (n : Int) = l[n] := by
  unfold q8_; rw [Int.toNat_natCast, qay_ _ h]
theorem qar_ (l : List S54) (n : Nat) (h : n < l.length) : qc_ l (n : Int) = l[n] := by
  unfold qc_; rw [Int.toNat_natCast, qay_ _ h]

/-- The program's own types. -/
def toK (x : S100) : S75 := ⟨x.f0, x.f1, x.f2, ⟨x.f3.f0, x.f3.f1, x.f3.f2⟩⟩
def toF (x : S26) : S34 := ⟨x.f0, ⟨x.f1.f0, x.f1.f1, x.f1.f2⟩, x.f2.map toK⟩
def toB (x : S72) : S54 := ⟨x.f0, toF x.f1⟩

theorem szKids_eq (l : List S100) (a : Int) (hl : l.length ≤ maxLen) (h0 : 0 ≤ a) (h1 : a ≤ 1048576) : laws_szKidS.f l a = some (if a < l.length then -1 else a - l.length) := by
  have hm : maxLen = 9223372036854775807 := rfl
  unfold laws_szKidS.f
  rw [qa5_ (by omega) (by omega)]
  by_cases h : a < l.length
  · rw [if_pos (by omega), if_pos h]
  · rw [if_neg (by omega), if_neg h]

theorem szFair_eq (a0 a1 a2 a3 : Int) (l : List S100) (a : Int) (hl : l.length ≤ maxLen) (h0 : 0 ≤ a) (h1 : a ≤ 1048576) : laws_szFair.f a0 a1 a2 a3 l a = some (if a < l.length then -1 else a - l.length) := by
  unfold laws_szFair.f
  rw [szKids_eq l a hl h0 h1]
  by_cases h : a < l.length
  · rw [if_pos h]; rfl
  · rw [if_neg h]; simp only [Option.bind_some]; rw [if_neg (by omega)]

theorem szBranch_eq (a0 a1 a2 a3 a4 : Int) (l : List S100) (a : Int) (hl : l.length ≤ maxLen) (h0 : 0 ≤ a) (h1 : a ≤ 1048576) : laws_szBranch.f a0 a1 a2 a3 a4 l a = some (if a < l.length then -1 else a - l.length) := by
  unfold laws_szBranch.f
  rw [szFair_eq a1 a2 a3 a4 l a hl h0 h1]
  by_cases h : a < l.length
  · rw [if_pos h]; rfl
  · rw [if_neg h]; simp only [Option.bind_some]; rw [if_neg (by omega)]

theorem szBranches_loop (l : List S72) (hl : l.length ≤ 1048576) (hx : ∀ x ∈ l, x.f1.f2.length ≤ maxLen) : ∀ n, n ≤ l.length → ∀ a : Int, 0 ≤ a → a ≤ 1048576 →
    ∃ s, Ev (fun k => laws_szBranchS.l0 k l a (n : Int)) s ∧ (s < 0 ∨ ∀ x ∈ l.drop n, x.f1.f2.length ≤ 1048576) := by
  refine down ?_ ?_
  · intro a h0 h1
    refine ⟨a, Ev.next (f := fun _ => some a) (Ev.now a) fun k => ?_, .inr (by simp)⟩
    simp only [laws_szBranchS.l0]; rw [if_neg (by omega)]
  · intro n hn ih a h0 h1
    have hxn : l[n].f1.f2.length ≤ maxLen := hx _ (List.getElem_mem hn)
    by_cases h : a < l[n].f1.f2.length
    · refine ⟨-1, Ev.next (f := fun _ => some (-1)) (Ev.now _) fun k => ?_, .inl (by omega)⟩
      simp only [laws_szBranchS.l0]
      rw [if_pos (by omega), if_pos (by omega), rdLB_nat l n hn, szBranch_eq _ _ _ _ _ _ _ hxn h0 h1, if_pos h]
      rfl
    · obtain ⟨s, hs, hd⟩ := ih (a - l[n].f1.f2.length) (by omega) (by omega)
      refine ⟨s, Ev.next hs fun k => ?_, hd.imp id fun hd x hx => ?_⟩
      · simp only [laws_szBranchS.l0]
        rw [if_pos (by omega), if_pos (by omega), rdLB_nat l n hn, szBranch_eq _ _ _ _ _ _ _ hxn h0 h1, if_neg h]
        simp only [Option.bind_some]
        rw [if_neg (by omega), q5_ (by omega)]
      · rw [List.drop_eq_getElem_cons hn] at hx
        rcases List.mem_cons.1 hx with rfl | hx
        · omega
        · exact hd x hx

/-- What the law's own count lets in. -/
def TreeSz (k : List S100) (b : List S72) : Prop := k.length ≤ 1048576 ∧ b.length ≤ 1048576 ∧ ∀ x ∈ b, x.f1.f2.length ≤ 1048576

theorem szTree_ev (y : S29) (hy : OK29 y) : ∃ s, Ev (fun k => laws_szTree.f k y.f0.f0 y.f0.f1.f0 y.f0.f1.f1 y.f0.f1.f2 y.f0.f2 y.f1 1048576) s ∧ (s < 0 ∨ TreeSz y.f0.f2 y.f1) := by
  have hm : maxLen = 9223372036854775807 := rfl
  have h1 : y.f0.f2.length ≤ maxLen := hy.1.2.2.1
  have h2 : y.f1.length ≤ maxLen := hy.2.1
  have h3 : ∀ x ∈ y.f1, x.f1.f2.length ≤ maxLen := fun x hx => (hy.2.2 x hx).2.2.2.1
  unfold laws_szTree.f
  simp only [szFair_eq _ _ _ _ _ (1048576 : Int) h1 (by omega) (by omega), Option.bind_some]
  by_cases h : (1048576 : Int) < y.f0.f2.length
  · simp only [if_pos h]
    exact ⟨-1, Ev.now' fun k => rfl, .inl (by omega)⟩
  · simp only [if_neg h, if_neg (show ¬ (1048576 - (y.f0.f2.length : Int)) < 0 by omega)]
    by_cases hb : (1048576 - (y.f0.f2.length : Int)) < y.f1.length
    · refine ⟨-1, Ev.now' fun k => ?_, .inl (by omega)⟩
      unfold laws_szBranchS.f
      rw [qa5_ (by omega) (by omega), if_pos (by omega)]; rfl
    · obtain ⟨s, hs, hd⟩ := szBranches_loop y.f1 (by omega) h3 0 (by omega) (1048576 - (y.f0.f2.length : Int) - (y.f1.length : Int)) (by omega) (by omega)
      have hf : Ev (fun k => laws_szBranchS.f k y.f1 (1048576 - (y.f0.f2.length : Int))) s := by
        refine Ev.congr (fun k => ?_) hs
        unfold laws_szBranchS.f
        rw [qa5_ (by omega) (by omega), if_neg (by omega)]; rfl
      by_cases hs0 : s < 0
      · exact ⟨-1, Ev.bind hf (f := fun _ t => if t < 0 then some (-1) else some t) (Ev.now' fun k => if_pos hs0), .inl (by omega)⟩
      · refine ⟨s, Ev.bind hf (f := fun _ t => if t < 0 then some (-1) else some t) (Ev.now' fun k => if_neg hs0), hd.imp id fun hd => ⟨by omega, by omega, by simpa using hd⟩⟩

theorem take_set_next {α : Type} {l m : List α} {n : Nat} {x : α} (hl : n < l.length) (hm : m.length = n) (h : l.take n = m) : (l.set n x).take (n + 1) = m ++ [x] := by
  rw [List.take_set, List.take_add_one, h, List.getElem?_eq_getElem hl]
  simp only [Option.toList_some]
  rw [List.set_append_right _ _ (by omega), hm]
  simp

theorem map_take_next {α β : Type} (f : α → β) {l : List α} {n : Nat} (hn : n < l.length) : (l.take (n + 1)).map f = (l.take n).map f ++ [f l[n]] := by
  rw [List.take_add_one, List.getElem?_eq_getElem hn, List.map_append]; rfl

theorem toKids_loop (l : List S100) (hl : l.length ≤ 1048576) : ∀ n, n ≤ l.length → ∀ acc : List S75, acc.length = l.length → acc.take n = (l.take n).map toK →
    Ev (fun k => laws_toKidS.l0 k l acc (n : Int)) (l.map toK) := by
  refine down ?_ ?_
  · intro acc ha ht
    have e : acc = l.map toK := by rw [List.take_of_length_le (by omega), List.take_of_length_le (by omega)] at ht; exact ht
    subst e
    refine Ev.next (f := fun _ => some (l.map toK)) (Ev.now _) fun k => ?_
    simp only [laws_toKidS.l0]; rw [if_neg (by omega)]
  · intro n hn ih acc ha ht
    refine Ev.next (ih (acc.set n (toK l[n])) (by simpa using ha) ?_) fun k => ?_
    · rw [map_take_next toK hn]
      exact take_set_next (by omega) (by rw [List.length_map, List.length_take]; omega) ht
    · simp only [laws_toKidS.l0, laws_toKid.f, laws_toVec.f, Option.bind_some]
      rw [if_pos (by omega), if_pos (by omega), if_pos (by omega), rdLK_nat l n hn, q5_ (by omega), Int.toNat_natCast]
      rfl

theorem toKids_ev (l : List S100) (hl : l.length ≤ 1048576) : Ev (fun k => laws_toKidS.f k l) (l.map toK) := by
  refine Ev.congr (fun k => ?_) (toKids_loop l hl 0 (by omega) (List.replicate l.length z75) (by simp) (by simp))
  unfold laws_toKidS.f
  rw [if_pos (by omega), if_pos (by omega)]
  simp

theorem toFair_ev (a0 a1 a2 a3 : Int) (l : List S100) (hl : l.length ≤ 1048576) : Ev (fun k => laws_toFair.f k a0 a1 a2 a3 l) (a0, a1, a2, a3, l.map toK) := by
  unfold laws_toFair.f laws_toVec.f
  simp only [Option.bind_some]
  exact Ev.bind (toKids_ev l hl) (f := fun _ t => some (a0, a1, a2, a3, t)) (Ev.now _)

theorem toBranches_loop (l : List S72) (hl : l.length ≤ 1048576) (hx : ∀ x ∈ l, x.f1.f2.length ≤ 1048576) : ∀ n, n ≤ l.length → ∀ acc : List S54, acc.length = l.length → acc.take n = (l.take n).map toB →
    Ev (fun k => laws_toBranchS.l0 k l acc (n : Int)) (l.map toB) := by
  refine down ?_ ?_
  · intro acc ha ht
    have e : acc = l.map toB := by rw [List.take_of_length_le (by omega), List.take_of_length_le (by omega)] at ht; exact ht
    subst e
    refine Ev.next (f := fun _ => some (l.map toB)) (Ev.now _) fun k => ?_
    simp only [laws_toBranchS.l0]; rw [if_neg (by omega)]
  · intro n hn ih acc ha ht
    have hxn : l[n].f1.f2.length ≤ 1048576 := hx _ (List.getElem_mem hn)
    have h1 : Ev (fun k => laws_toBranch.f k l[n].f0 l[n].f1.f0 l[n].f1.f1.f0 l[n].f1.f1.f1 l[n].f1.f1.f2 l[n].f1.f2) (l[n].f0, l[n].f1.f0, l[n].f1.f1.f0, l[n].f1.f1.f1, l[n].f1.f1.f2, l[n].f1.f2.map toK) := by
      unfold laws_toBranch.f
      exact Ev.bind (toFair_ev _ _ _ _ _ hxn) (f := fun _ bt => some (l[n].f0, bt.1, bt.2.1, bt.2.2.1, bt.2.2.2.1, bt.2.2.2.2)) (Ev.now _)
    refine Ev.next (Ev.bind h1 (f := fun k bt => laws_toBranchS.l0 k l (acc.set n (⟨bt.1, (⟨bt.2.1, (⟨bt.2.2.1, bt.2.2.2.1, bt.2.2.2.2.1⟩ : S31), bt.2.2.2.2.2⟩ : S34)⟩ : S54)) ((n + 1 : Nat) : Int)) (ih (acc.set n (toB l[n])) (by simpa using ha) ?_)) fun k => ?_
    · rw [map_take_next toB hn]
      exact take_set_next (by omega) (by rw [List.length_map, List.length_take]; omega) ht
    · simp only [laws_toBranchS.l0]
      rw [if_pos (by omega), if_pos (by omega), rdLB_nat l n hn]
      simp only [if_pos (show (n : Int) < (acc.length : Int) by omega), q5_ (show n < 4611686018427387904 by omega), Int.toNat_natCast]

theorem toBranches_ev (l : List S72) (hl : l.length ≤ 1048576) (hx : ∀ x ∈ l, x.f1.f2.length ≤ 1048576) : Ev (fun k => laws_toBranchS.f k l) (l.map toB) := by
  refine Ev.congr (fun k => ?_) (toBranches_loop l hl hx 0 (by omega) (List.replicate l.length z54) (by simp) (by simp))
  unfold laws_toBranchS.f
  rw [if_pos (by omega), if_pos (by omega)]
  simp

theorem toTree_ev (y : S29) (hs : TreeSz y.f0.f2 y.f1) : Ev (fun k => laws_toTree.f k y.f0.f0 y.f0.f1.f0 y.f0.f1.f1 y.f0.f1.f2 y.f0.f2 y.f1) (y.f0.f0, y.f0.f1.f0, y.f0.f1.f1, y.f0.f1.f2, y.f0.f2.map toK, y.f1.map toB) := by
  unfold laws_toTree.f
  refine Ev.bind (toFair_ev _ _ _ _ _ hs.1) ?_
  exact Ev.bind (toBranches_ev _ hs.2.1 hs.2.2) (f := fun _ t => some (y.f0.f0, y.f0.f1.f0, y.f0.f1.f1, y.f0.f1.f2, y.f0.f2.map toK, t)) (Ev.now _)

theorem eqKid_eq (a b : Int) (c : Bool) (d e f : Int) : laws_eqKid.f a b c d e f a b c d e f = some true := by
  simp [laws_eqKid.f, laws_eqVec.f]

theorem eqKids_loop (l : List S75) (hl : l.length ≤ 1048576) : ∀ n, n ≤ l.length → Ev (fun k => laws_eqKidS.l0 k l l (n : Int)) true := by
  refine down ?_ ?_
  · refine Ev.next (f := fun _ => some true) (Ev.now true) fun k => ?_
    simp only [laws_eqKidS.l0]; rw [if_neg (by omega)]
  · intro n hn ih
    refine Ev.next ih fun k => ?_
    simp only [laws_eqKidS.l0]
    rw [if_pos (by omega), if_pos (by omega), if_pos (by omega), eqKid_eq, q5_ (by omega)]
    simp only [Option.bind_some, if_true]

theorem eqKids_ev (l : List S75) (hl : l.length ≤ 1048576) : Ev (fun k => laws_eqKidS.f k l l) true := by
  refine Ev.congr (fun k => ?_) (eqKids_loop l hl 0 (by omega))
  unfold laws_eqKidS.f
  rw [if_pos rfl]; rfl

theorem eqFair_ev (a0 a1 a2 a3 : Int) (l : List S75) (hl : l.length ≤ 1048576) : Ev (fun k => laws_eqFair.f k a0 a1 a2 a3 l a0 a1 a2 a3 l) true := by
  unfold laws_eqFair.f laws_eqVec.f
  simp only [if_true, Option.bind_some]
  exact Ev.bind (eqKids_ev l hl) (f := fun _ t => if t = true then some true else some false) (Ev.now _)

theorem eqBranches_loop (l : List S54) (hl : l.length ≤ 1048576) (hx : ∀ x ∈ l, x.f1.f2.length ≤ 1048576) : ∀ n, n ≤ l.length → Ev (fun k => laws_eqBranchS.l0 k l l (n : Int)) true := by
  refine down ?_ ?_
  · refine Ev.next (f := fun _ => some true) (Ev.now true) fun k => ?_
    simp only [laws_eqBranchS.l0]; rw [if_neg (by omega)]
  · intro n hn ih
    have hxn : l[n].f1.f2.length ≤ 1048576 := hx _ (List.getElem_mem hn)
    have h1 : Ev (fun k => laws_eqBranch.f k l[n].f0 l[n].f1.f0 l[n].f1.f1.f0 l[n].f1.f1.f1 l[n].f1.f1.f2 l[n].f1.f2 l[n].f0 l[n].f1.f0 l[n].f1.f1.f0 l[n].f1.f1.f1 l[n].f1.f1.f2 l[n].f1.f2) true := by
      unfold laws_eqBranch.f
      simp only [if_true]
      exact Ev.bind (eqFair_ev _ _ _ _ _ hxn) (f := fun _ t => if t = true then some true else some false) (Ev.now _)
    refine Ev.next (Ev.bind h1 (f := fun k t => if t = true then laws_eqBranchS.l0 k l l ((n + 1 : Nat) : Int) else some false) ih) fun k => ?_
    simp only [laws_eqBranchS.l0]
    rw [if_pos (by omega), if_pos (by omega), if_pos (by omega), qar_ l n hn, q5_ (by omega)]

theorem eqBranches_ev (l : List S54) (hl : l.length ≤ 1048576) (hx : ∀ x ∈ l, x.f1.f2.length ≤ 1048576) : Ev (fun k => laws_eqBranchS.f k l l) true := by
  refine Ev.congr (fun k => ?_) (eqBranches_loop l hl hx 0 (by omega))
  unfold laws_eqBranchS.f
  rw [if_pos rfl]; rfl

theorem eqTree_ev (a0 a1 a2 a3 : Int) (l : List S75) (b : List S54) (hl : l.length ≤ 1048576) (hb : b.length ≤ 1048576) (hx : ∀ x ∈ b, x.f1.f2.length ≤ 1048576) : Ev (fun k => laws_eqTree.f k a0 a1 a2 a3 l b a0 a1 a2 a3 l b) true := by
  unfold laws_eqTree.f
  refine Ev.bind (eqFair_ev _ _ _ _ _ hl) ?_
  simp only [if_true]
  exact Ev.bind (eqBranches_ev _ hb hx) (f := fun _ t => if t = true then some true else some false) (Ev.now _)

theorem toB_len {l : List S72} (hx : ∀ x ∈ l, x.f1.f2.length ≤ 1048576) : ∀ x ∈ l.map toB, x.f1.f2.length ≤ 1048576 := by
  intro x h
  obtain ⟨y, hy, rfl⟩ := List.mem_map.1 h
  simpa [toB, toF] using hx y hy

theorem within_eq (a b c : Int) : impl_within.f a b c = some (decide (b ≤ a ∧ a ≤ c)) := by
  unfold impl_within.f
  by_cases h : a ≥ b
  · rw [if_pos h]; congr 1; simp; omega
  · rw [if_neg h]; congr 1; simp; omega

/-- Is each of the three from lo to hi? -/
def vFrom (a b c lo hi : Int) : Bool := decide ((lo ≤ a ∧ a ≤ hi) ∧ (lo ≤ b ∧ b ≤ hi) ∧ (lo ≤ c ∧ c ≤ hi))

theorem sAll_eq (a b c lo hi : Int) : spec_l13All.f a b c lo hi = some (vFrom a b c lo hi) := by
  unfold spec_l13All.f vFrom
  repeat' split
  all_goals (congr 1; first | exact dec_iff (by omega) | exact dec_false (by omega) | exact dec_true (by omega))

theorem iFrom_eq (a b c lo hi : Int) : impl_Vec_isFrom.f a b c lo hi = some (vFrom a b c lo hi) := by
  unfold impl_Vec_isFrom.f vFrom
  simp only [within_eq, Option.bind_some, decide_eq_true_eq]
  repeat' split
  all_goals (congr 1; first | exact dec_iff (by omega) | exact dec_false (by omega) | exact dec_true (by omega))

/-- Is a tag's spread at most the delta? -/
def narrowM (a b c d : Int) : Bool := vFrom a b c 0 1000000000000 && (decide (0 ≤ d ∧ d ≤ 10000000) && decide (mx (mx a b) c - d ≤ a ∧ mx (mx a b) c - d ≤ b ∧ mx (mx a b) c - d ≤ c))

theorem mx_cases (a b : Int) : (mx a b = a ∧ b ≤ a) ∨ (mx a b = b ∧ a < b) := by
  unfold mx; by_cases h : a < b
  · rw [if_pos h]; exact .inr ⟨rfl, h⟩
  · rw [if_neg h]; exact .inl ⟨rfl, by omega⟩
theorem mn_cases (a b : Int) : (mn a b = a ∧ a ≤ b) ∨ (mn a b = b ∧ b < a) := by
  unfold mn; by_cases h : b < a
  · rw [if_pos h]; exact .inr ⟨rfl, h⟩
  · rw [if_neg h]; exact .inl ⟨rfl, by omega⟩

theorem sNarrow_eq (a b c d : Int) : spec_Narrow.f a b c d = some (narrowM a b c d) := by
  unfold spec_Narrow.f spec_TagOk.f spec_l13Delta.f spec_VecTop.f narrowM
  simp only [sAll_eq, Option.bind_some]
  cases hv : vFrom a b c 0 1000000000000 with
  | false => simp
  | true =>
    have hv' : (0 ≤ a ∧ a ≤ 1000000000000) ∧ (0 ≤ b ∧ b ≤ 1000000000000) ∧ (0 ≤ c ∧ c ≤ 1000000000000) := by simpa [vFrom] using hv
    by_cases h1 : d ≥ 0
    · by_cases h2 : d ≤ 10000000
      · have c1 := mx_cases a b
        have c2 := mx_cases (mx a b) c
        have c3 := mn_cases a b
        have c4 := mn_cases (mn a b) c
        have hw : wrap64 (mx (mx a b) c - d) = mx (mx a b) c - d := qa5_ (by omega) (by omega)
        simp only [if_true, if_pos h1, Option.bind_some, h2, decide_true, hw, decide_eq_true (show 0 ≤ d ∧ True from ⟨h1, trivial⟩), Bool.true_and]
        congr 1
        exact dec_iff (by omega)
      · simp only [if_true, if_pos h1, Option.bind_some, decide_eq_false h2, decide_eq_false (show ¬ (0 ≤ d ∧ d ≤ 10000000) by omega), Bool.false_and, Bool.and_false, if_neg (show ¬ (false = true) by decide)]
    · simp only [if_true, if_neg h1, Option.bind_some, decide_eq_false (show ¬ (0 ≤ d ∧ d ≤ 10000000) by omega), Bool.false_and, Bool.and_false, if_neg (show ¬ (false = true) by decide)]

theorem iNarrow_eq (a b c d : Int) : impl_Narrow.f a b c d = some (narrowM a b c d) := by
  unfold impl_Narrow.f impl_TagOk.f impl_isDelta.f impl_VecTop.f narrowM
  simp only [iFrom_eq, within_eq, Option.bind_some]
  cases hv : vFrom a b c 0 1000000000000 with
  | false => simp
  | true =>
    have hv' : (0 ≤ a ∧ a ≤ 1000000000000) ∧ (0 ≤ b ∧ b ≤ 1000000000000) ∧ (0 ≤ c ∧ c ≤ 1000000000000) := by simpa [vFrom] using hv
    by_cases h1 : 0 ≤ d ∧ d ≤ 10000000
    · have c1 := mx_cases a b
      have c2 := mx_cases (mx a b) c
      have hw : wrap64 (mx (mx a b) c - d) = mx (mx a b) c - d := qa5_ (by omega) (by omega)
      simp only [if_true, decide_eq_true h1, hw, Bool.true_and]
      congr 1
      unfold vFrom
      exact dec_iff (by omega)
    · simp only [if_true, decide_eq_false h1, Bool.false_and, Bool.and_false, if_neg (show ¬ (false = true) by decide)]

theorem wrap_stride (b : Int) (h0 : 1 ≤ b) : wrap64 (Int.tdiv 2520 b) = 2520 / b := by
  have e : Int.tdiv 2520 b = 2520 / b := Int.tdiv_eq_ediv_of_nonneg (by omega)
  have h1 : 0 ≤ 2520 / b := Int.ediv_nonneg (by omega) (by omega)
  have h2 : 2520 / b ≤ 2520 := Int.ediv_le_self _ (by omega)
  rw [e, qa5_ (by omega) (by omega)]

/-- The qa7_ of a weight. -/
def qa7_ (b : Int) : Int := if 1 ≤ b ∧ b ≤ 10 then 2520 / b else 0

theorem qa1_ (b : Int) : spec_Stride.f b = some (qa7_ b) := by
  unfold spec_Stride.f qa7_
  by_cases h1 : b < 1
  · rw [if_pos h1, if_neg (by omega)]
  · rw [if_neg h1]
    by_cases h2 : b > 10
    · rw [if_pos h2, if_neg (by omega)]
    · rw [if_neg h2, if_neg (by omega), if_pos (by omega), wrap_stride b (by omega)]

theorem stride_pos {b : Int} (h : 1 ≤ b ∧ b ≤ 10) : 252 ≤ qa7_ b ∧ qa7_ b ≤ 2520 := by
  unfold qa7_
  rw [if_pos h]
  constructor
  · rw [Int.le_ediv_iff_mul_le (by omega)]; omega
  · exact Int.ediv_le_self _ (by omega)

theorem stride_zero (b : Int) : qa7_ b = 0 ↔ ¬ (1 ≤ b ∧ b ≤ 10) := by
  by_cases h : 1 ≤ b ∧ b ≤ 10
  · have := stride_pos h
    constructor
    · intro h2; omega
    · intro h2; exact absurd h h2
  · unfold qa7_; simp [h]

theorem stride_bd (b : Int) : 0 ≤ qa7_ b ∧ qa7_ b ≤ 2520 := by
  by_cases h : 1 ≤ b ∧ b ≤ 10
  · have := stride_pos h; omega
  · have := (stride_zero b).2 h; omega

theorem isWeight_eq (b : Int) : impl_isWeight.f b = some (decide (1 ≤ b ∧ b ≤ 10)) := by
  unfold impl_isWeight.f; rw [within_eq]; rfl

theorem iStride_eq (b : Int) : impl_Stride.f b = some (qa7_ b) := by
  unfold impl_Stride.f qa7_
  rw [isWeight_eq]
  by_cases h : 1 ≤ b ∧ b ≤ 10
  · simp only [Option.bind_some, decide_eq_true h, if_true, if_pos h]
    rw [if_neg (by omega), wrap_stride b (by omega)]
  · simp only [Option.bind_some, decide_eq_false h, if_neg h]
    rfl

abbrev topK (x : S75) : Int := mx (mx x.f3.f0 x.f3.f1) x.f3.f2
def kid1 (a : Int) (x : S75) : Bool := decide (0 ≤ x.f0 ∧ x.f0 ≤ 9999) && (decide (1 ≤ x.f1 ∧ x.f1 ≤ 10) && narrowM x.f3.f0 x.f3.f1 x.f3.f2 a)
def kid2 (t : Int) (x : S75) : Bool := decide (topK x ≤ wrap64 (t + wrap64 (qa7_ x.f1 * 2000))) && (!x.f2 || decide (t ≤ topK x))
def ordAt (L : List S75) (n : Nat) : Bool := decide (n = 0) || decide ((L.getD (n - 1) z75).f0 < (L.getD n z75).f0)
def kidAt (a t : Int) (L : List S75) (n : Nat) : Bool := kid1 a (L.getD n z75) && (kid2 t (L.getD n z75) && ordAt L n)
def qa9_ (a t : Int) (L : List S75) : Nat → Nat → Bool
  | 0, _ => true
  | d + 1, n => kidAt a t L n && qa9_ a t L d (n + 1)
def fairM (a b c d : Int) (L : List S75) : Bool := narrowM b c d a && (decide (mx (mx b c) d ≤ 100000000000) && (decide (L.length ≤ 48) && qa9_ a (mx (mx b c) d) L L.length 0))

theorem sFair_j2 (a b c d : Int) (L : List S75) (n : Int) (x : S75) (r : Bool) (hr : Ev (fun k => spec_FairOk.l0 k (wrap64 (n + 1)) a b c d L) r) (t : Bool) :
    Ev (fun k => spec_FairOk.j2 k n t a b c d L x.f0 x.f1 x.f2 x.f3.f0 x.f3.f1 x.f3.f2) (!t && (kid2 (mx (mx b c) d) x && r)) := by
  cases t with
  | true => exact Ev.next (f := fun _ => some false) (Ev.now _) fun k => by simp [spec_FairOk.j2]
  | false =>
    by_cases h1 : topK x > wrap64 (mx (mx b c) d + wrap64 (qa7_ x.f1 * 2000))
    · refine Ev.to (Ev.next (f := fun _ => some false) (Ev.now _) fun k => ?_) ?_
      · simp only [spec_FairOk.j2, spec_VecTop.f, qa1_, Option.bind_some]; rw [if_neg (by decide), if_pos h1]
      · unfold kid2; rw [decide_eq_false (by omega)]; simp
    · cases hb : x.f2 with
      | false =>
        refine Ev.to (Ev.next hr fun k => ?_) ?_
        · simp only [spec_FairOk.j2, spec_VecTop.f, qa1_, Option.bind_some]; rw [if_neg (by decide), if_neg h1, if_neg (by decide)]
        · unfold kid2; rw [hb, decide_eq_true (by omega)]; simp
      | true =>
        by_cases h2 : topK x < mx (mx b c) d
        · refine Ev.to (Ev.next (f := fun _ => some false) (Ev.now _) fun k => ?_) ?_
          · simp only [spec_FairOk.j2, spec_VecTop.f, qa1_, Option.bind_some]; rw [if_neg (by decide), if_neg h1, if_pos trivial, if_pos h2]
          · unfold kid2; rw [hb, decide_eq_false (show ¬ mx (mx b c) d ≤ topK x by omega)]; simp
        · refine Ev.to (Ev.next hr fun k => ?_) ?_
          · simp only [spec_FairOk.j2, spec_VecTop.f, qa1_, Option.bind_some]; rw [if_neg (by decide), if_neg h1, if_pos trivial, if_neg h2]
          · unfold kid2; rw [hb, decide_eq_true (show mx (mx b c) d ≤ topK x by omega), decide_eq_true (show topK x ≤ _ by omega)]; simp

theorem sFair_loop (a b c d : Int) (L : List S75) (hl : L.length ≤ 1048576) : ∀ m n, n + m = L.length → Ev (fun k => spec_FairOk.l0 k (n : Int) a b c d L) (qa9_ a (mx (mx b c) d) L m n) := by
  intro m
  induction m with
  | zero =>
    intro n hn
    refine Ev.next (f := fun _ => some _) (Ev.now _) fun k => ?_
    simp only [spec_FairOk.l0]; rw [if_neg (by omega)]; rfl
  | succ m ih =>
    intro n hn
    have hlt : n < L.length := by omega
    have hg : L.getD n z75 = L[n] := qay_ _ hlt
    have hr := ih (n + 1) (by omega)
    rw [show ((n + 1 : Nat) : Int) = wrap64 ((n : Int) + 1) from (q5_ (by omega)).symm] at hr
    have hj := sFair_j2 a b c d L n L[n] _ hr
    simp only [qa9_, kidAt, hg, kid1]
    by_cases h1 : L[n].f0 < 0
    · refine Ev.to (Ev.next (hj true) fun k => ?_) (by rw [decide_eq_false (show ¬ (0 ≤ L[n].f0 ∧ L[n].f0 ≤ 9999) by omega)]; simp)
      simp only [spec_FairOk.l0]; rw [if_pos (by omega), if_pos (by omega), q6_ L n hlt, if_pos h1]
    by_cases h2 : L[n].f0 > 9999
    · refine Ev.to (Ev.next (hj true) fun k => ?_) (by rw [decide_eq_false (show ¬ (0 ≤ L[n].f0 ∧ L[n].f0 ≤ 9999) by omega)]; simp)
      simp only [spec_FairOk.l0]; rw [if_pos (by omega), if_pos (by omega), q6_ L n hlt, if_neg h1, if_pos h2]
    rw [decide_eq_true (show 0 ≤ L[n].f0 ∧ L[n].f0 ≤ 9999 by omega)]
    have hcom : Ev (fun k => (spec_Stride.f L[n].f1).bind fun t148 => if t148 = 0 then spec_FairOk.j2 k (n : Int) true a b c d L L[n].f0 L[n].f1 L[n].f2 L[n].f3.f0 L[n].f3.f1 L[n].f3.f2 else (spec_Narrow.f L[n].f3.f0 L[n].f3.f1 L[n].f3.f2 a).bind fun t149 => spec_FairOk.j2 k (n : Int) (!t149) a b c d L L[n].f0 L[n].f1 L[n].f2 L[n].f3.f0 L[n].f3.f1 L[n].f3.f2)
        (decide (1 ≤ L[n].f1 ∧ L[n].f1 ≤ 10) && (narrowM L[n].f3.f0 L[n].f3.f1 L[n].f3.f2 a && (kid2 (mx (mx b c) d) L[n] && qa9_ a (mx (mx b c) d) L m (n + 1)))) := by
      simp only [qa1_, sNarrow_eq, Option.bind_some]
      by_cases hw : 1 ≤ L[n].f1 ∧ L[n].f1 ≤ 10
      · simp only [if_neg (show ¬ qa7_ L[n].f1 = 0 from fun h => (stride_zero _).1 h hw), decide_eq_true hw]
        exact Ev.to (hj _) (by simp)
      · simp only [if_pos ((stride_zero _).2 hw), decide_eq_false hw]
        exact Ev.to (hj true) (by simp)
    by_cases h0 : n = 0
    · subst h0
      refine Ev.to (Ev.next hcom fun k => ?_) (by unfold ordAt; simp [Bool.and_assoc])
      simp only [spec_FairOk.l0]; rw [if_pos (by omega), if_pos (by omega), q6_ L 0 hlt, if_neg h1, if_neg h2, if_neg (by omega)]
    · have hp : L.getD (n - 1) z75 = L[n - 1] := qay_ _ (by omega)
      by_cases h3 : L[n - 1].f0 ≥ L[n].f0
      · refine Ev.to (Ev.next (hj true) fun k => ?_) (by unfold ordAt; rw [hp, hg, decide_eq_false h0, decide_eq_false (show ¬ L[n - 1].f0 < L[n].f0 by omega)]; simp)
        simp only [spec_FairOk.l0]; rw [if_pos (by omega), if_pos (by omega), q6_ L n hlt, if_neg h1, if_neg h2, if_pos (by omega), wrap_pred (by omega) (by omega), if_pos (by omega), if_pos (by omega), q6_ L (n - 1) (by omega), if_pos h3]
      · refine Ev.to (Ev.next hcom fun k => ?_) (by unfold ordAt; rw [hp, hg, decide_eq_true (show L[n - 1].f0 < L[n].f0 by omega)]; simp [Bool.and_assoc])
        simp only [spec_FairOk.l0]; rw [if_pos (by omega), if_pos (by omega), q6_ L n hlt, if_neg h1, if_neg h2, if_pos (by omega), wrap_pred (by omega) (by omega), if_pos (by omega), if_pos (by omega), q6_ L (n - 1) (by omega), if_neg h3]

theorem sFair_ev (a b c d : Int) (L : List S75) (hl : L.length ≤ 1048576) : Ev (fun k => spec_FairOk.f k a b c d L) (fairM a b c d L) := by
  have hj : ∀ t : Bool, Ev (fun k => spec_FairOk.j0 k t a b c d L) (!t && qa9_ a (mx (mx b c) d) L L.length 0) := by
    intro t
    cases t with
    | true => exact Ev.next (f := fun _ => some false) (Ev.now _) fun k => by simp [spec_FairOk.j0]
    | false => exact Ev.to (Ev.next (sFair_loop a b c d L hl L.length 0 (by omega)) fun k => by simp [spec_FairOk.j0]) (by simp)
  unfold spec_FairOk.f fairM
  simp only [sNarrow_eq, spec_VecTop.f, Option.bind_some]
  cases narrowM b c d a with
  | false => exact Ev.to (hj true) (by simp)
  | true =>
    simp only [if_true]
    by_cases h : mx (mx b c) d > 100000000000
    · simp only [if_pos h]; exact Ev.to (hj true) (by rw [decide_eq_false (show ¬ mx (mx b c) d ≤ 100000000000 by omega)]; simp)
    · simp only [if_neg h]
      refine Ev.to (hj _) ?_
      rw [decide_eq_true (show mx (mx b c) d ≤ 100000000000 by omega)]
      by_cases h2 : L.length ≤ 48
      · rw [decide_eq_false (show ¬ (L.length : Int) > 48 by omega), decide_eq_true h2]; simp
      · rw [decide_eq_true (show (L.length : Int) > 48 by omega), decide_eq_false h2]; simp

theorem iKid_eq (a b c d : Int) (L : List S75) (x : S75) : impl_Fair_kidOk.f a b c d L x.f0 x.f1 x.f2 x.f3.f0 x.f3.f1 x.f3.f2 = some (kid1 a x && kid2 (mx (mx b c) d) x) := by
  unfold impl_Fair_kidOk.f kid1 kid2
  simp only [impl_VecTop.f, impl_isFlow.f, within_eq, isWeight_eq, iNarrow_eq, iStride_eq, Option.bind_some]
  by_cases h1 : 0 ≤ x.f0 ∧ x.f0 ≤ 9999
  · by_cases h2 : 1 ≤ x.f1 ∧ x.f1 ≤ 10
    · cases narrowM x.f3.f0 x.f3.f1 x.f3.f2 a with
      | false => simp
      | true =>
        simp only [decide_eq_true h1, decide_eq_true h2, if_true, Bool.true_and]
        by_cases h3 : topK x ≤ wrap64 (mx (mx b c) d + wrap64 (qa7_ x.f1 * 2000))
        · rw [if_pos h3, decide_eq_true h3]
          cases x.f2 with
          | false => simp
          | true => simp
        · rw [if_neg h3, decide_eq_false h3]; simp
    · simp [h2]
  · simp [h1]

theorem iFair_loop (a b c d : Int) (L : List S75) (hl : L.length ≤ 1048576) : ∀ m n, n + m = L.length → Ev (fun k => impl_FairOk.l0 k L (L.length : Int) (n : Int) a b c d L) (qa9_ a (mx (mx b c) d) L m n) := by
  intro m
  induction m with
  | zero =>
    intro n hn
    refine Ev.next (f := fun _ => some _) (Ev.now _) fun k => ?_
    simp only [impl_FairOk.l0]; rw [if_neg (by omega)]; rfl
  | succ m ih =>
    intro n hn
    have hlt : n < L.length := by omega
    have hg : L.getD n z75 = L[n] := qay_ _ hlt
    have hr := ih (n + 1) (by omega)
    rw [show ((n + 1 : Nat) : Int) = wrap64 ((n : Int) + 1) from (q5_ (by omega)).symm] at hr
    simp only [qa9_, kidAt, hg, ← Bool.and_assoc]
    cases hk : (kid1 a L[n] && kid2 (mx (mx b c) d) L[n]) with
    | false =>
      refine Ev.to (Ev.next (f := fun _ => some false) (Ev.now _) fun k => ?_) (by simp)
      simp only [impl_FairOk.l0]; rw [if_pos (by omega), if_pos (by omega), if_pos (by omega), q6_ L n hlt, iKid_eq, hk]; rfl
    | true =>
      by_cases h0 : n = 0
      · subst h0
        refine Ev.to (Ev.next hr fun k => ?_) (by unfold ordAt; simp)
        simp only [impl_FairOk.l0]; rw [if_pos (by omega), if_pos (by omega), if_pos (by omega), q6_ L 0 hlt, iKid_eq, hk]; simp only [Option.bind_some, if_true]; rw [if_neg (by omega)]
      · have hp : L.getD (n - 1) z75 = L[n - 1] := qay_ _ (by omega)
        by_cases h3 : L[n - 1].f0 ≥ L[n].f0
        · refine Ev.to (Ev.next (f := fun _ => some false) (Ev.now _) fun k => ?_) (by unfold ordAt; rw [hp, hg, decide_eq_false h0, decide_eq_false (show ¬ L[n - 1].f0 < L[n].f0 by omega)]; simp)
          simp only [impl_FairOk.l0]; rw [if_pos (by omega), if_pos (by omega), if_pos (by omega), q6_ L n hlt, iKid_eq, hk]; simp only [Option.bind_some, if_true]; rw [if_pos (by omega), wrap_pred (by omega) (by omega), if_pos (by omega), if_pos (by omega), q6_ L (n - 1) (by omega), if_pos h3]
        · refine Ev.to (Ev.next hr fun k => ?_) (by unfold ordAt; rw [hp, hg, decide_eq_true (show L[n - 1].f0 < L[n].f0 by omega)]; simp)
          simp only [impl_FairOk.l0]; rw [if_pos (by omega), if_pos (by omega), if_pos (by omega), q6_ L n hlt, iKid_eq, hk]; simp only [Option.bind_some, if_true]; rw [if_pos (by omega), wrap_pred (by omega) (by omega), if_pos (by omega), if_pos (by omega), q6_ L (n - 1) (by omega), if_neg h3]

theorem iFair_ev (a b c d : Int) (L : List S75) (hl : L.length ≤ 1048576) : Ev (fun k => impl_FairOk.f k a b c d L) (fairM a b c d L) := by
  have hj : ∀ t : Bool, Ev (fun k => impl_FairOk.j0 k t a b c d L) (!t && qa9_ a (mx (mx b c) d) L L.length 0) := by
    intro t
    cases t with
    | true => exact Ev.next (f := fun _ => some false) (Ev.now _) fun k => by simp [impl_FairOk.j0]
    | false => exact Ev.to (Ev.next (iFair_loop a b c d L hl L.length 0 (by omega)) fun k => by simp [impl_FairOk.j0]) (by simp)
  unfold impl_FairOk.f fairM
  simp only [iNarrow_eq, impl_VecTop.f, Option.bind_some]
  cases narrowM b c d a with
  | false => exact Ev.to (hj true) (by simp)
  | true =>
    simp only [if_true]
    by_cases h : mx (mx b c) d > 100000000000
    · simp only [if_pos h]; exact Ev.to (hj true) (by rw [decide_eq_false (show ¬ mx (mx b c) d ≤ 100000000000 by omega)]; simp)
    · simp only [if_neg h]
      refine Ev.to (hj _) ?_
      rw [decide_eq_true (show mx (mx b c) d ≤ 100000000000 by omega)]
      by_cases h2 : L.length ≤ 48
      · rw [decide_eq_false (show ¬ (L.length : Int) > 48 by omega), decide_eq_true h2]; simp
      · rw [decide_eq_true (show (L.length : Int) > 48 by omega), decide_eq_false h2]; simp

/-- The one that is picked next: of those that wait the first with the least tag. -/
def qbd_ (L : List S75) (b : Int) (n : Nat) : Int := if (L.getD n z75).f2 = true then (if b < 0 then (n : Int) else if topK (L.getD n z75) < topK (qb_ L b) then (n : Int) else b) else b
def qa8_ (L : List S75) : Nat → Nat → Int → Int
  | 0, _, b => b
  | d + 1, n, b => qa8_ L d (n + 1) (qbd_ L b n)
def pickM (L : List S75) : Int := qa8_ L L.length 0 (-1)

theorem pickStep_lt {L : List S75} {b : Int} {n : Nat} (hb : b < L.length) (hn : n < L.length) : qbd_ L b n < L.length := by
  unfold qbd_; repeat' split
  all_goals omega
theorem pickStep_le {L : List S75} {b : Int} {n : Nat} (hb : -1 ≤ b) : -1 ≤ qbd_ L b n := by
  unfold qbd_; repeat' split
  all_goals omega
theorem pickFrom_bd {L : List S75} : ∀ m n b, n + m = L.length → -1 ≤ b → b < (L.length : Int) → -1 ≤ qa8_ L m n b ∧ qa8_ L m n b < L.length := by
  intro m
  induction m with
  | zero => intro n b hn h0 h1; exact ⟨h0, h1⟩
  | succ m ih => intro n b hn h0 h1; exact ih (n + 1) _ (by omega) (pickStep_le h0) (pickStep_lt h1 (by omega))
theorem pickM_bd (L : List S75) : -1 ≤ pickM L ∧ pickM L < L.length ∨ L.length = 0 ∧ pickM L = -1 := by
  by_cases h : L.length = 0
  · right; unfold pickM; rw [h]; exact ⟨rfl, rfl⟩
  · left; exact pickFrom_bd L.length 0 (-1) (by omega) (by omega) (by omega)

theorem pickFrom_busy {L : List S75} : ∀ m n b, n + m = L.length → (0 ≤ qa8_ L m n b ↔ (0 ≤ b ∨ (L.drop n).any (fun x => x.f2) = true)) := by
  intro m
  induction m with
  | zero => intro n b hn; rw [List.drop_eq_nil_of_le (by omega)]; simp [qa8_]
  | succ m ih =>
    intro n b hn
    have hlt : n < L.length := by omega
    have hg : L.getD n z75 = L[n] := qay_ _ hlt
    rw [qa8_, ih (n + 1) _ (by omega), any_drop hlt]
    unfold qbd_; rw [hg]
    cases hf : L[n].f2 with
    | false => simp
    | true =>
      simp only [if_true, Bool.true_or, or_true, iff_true]
      left
      repeat' split
      all_goals omega
theorem pickM_busy (L : List S75) : 0 ≤ pickM L ↔ L.any (fun x => x.f2) = true := by
  unfold pickM; rw [pickFrom_busy L.length 0 (-1) (by omega)]; simp

theorem iPick_loop (a b c d : Int) (L : List S75) (hl : L.length ≤ 1048576) : ∀ m n, n + m = L.length → ∀ x : Int, x < L.length → Ev (fun k => impl_Fair_pick.l0 k x L (L.length : Int) (n : Int) a b c d L) (qa8_ L m n x) := by
  intro m
  induction m with
  | zero =>
    intro n hn x hx
    refine Ev.next (f := fun _ => some x) (Ev.now _) fun k => ?_
    simp only [impl_Fair_pick.l0]; rw [if_neg (by omega)]
  | succ m ih =>
    intro n hn x hx
    have hlt : n < L.length := by omega
    have hg : L.getD n z75 = L[n] := qay_ _ hlt
    refine Ev.next (ih (n + 1) (by omega) (qbd_ L x n) (pickStep_lt hx hlt)) fun k => ?_
    simp only [impl_Fair_pick.l0, impl_VecTop.f, Option.bind_some]
    rw [if_pos (by omega), if_pos (by omega), if_pos (by omega), q6_ L n hlt, q5_ (by omega)]
    unfold qbd_; rw [hg]
    cases hf : L[n].f2 with
    | false => simp
    | true =>
      simp only [if_true]
      by_cases h0 : x < 0
      · rw [if_pos h0, if_pos h0]
      · rw [if_neg h0, if_neg h0, if_pos (by omega), if_pos (by omega)]
        by_cases h1 : topK L[n] < topK (qb_ L x)
        · rw [if_pos h1, if_pos h1]
        · rw [if_neg h1, if_neg h1]

theorem iPick_ev (a b c d : Int) (L : List S75) (hl : L.length ≤ 1048576) : Ev (fun k => impl_Fair_pick.f k a b c d L) (pickM L) := by
  unfold impl_Fair_pick.f pickM
  exact iPick_loop a b c d L hl L.length 0 (by omega) (-1) (by omega)

theorem iBusyAny_ev (a b c d : Int) (L : List S75) (hl : L.length ≤ 1048576) : Ev (fun k => impl_Fair_isBusy.f k a b c d L) (L.any (fun x => x.f2)) := by
  unfold impl_Fair_isBusy.f
  refine Ev.to (Ev.bind (iPick_ev a b c d L hl) (f := fun _ t => some (decide (t ≥ 0))) (Ev.now _)) ?_
  rw [Bool.eq_iff_iff, decide_eq_true_eq]
  exact pickM_busy L

theorem sBusyIds_loop (a b c d : Int) (L : List S75) (hl : L.length ≤ 1048576) : ∀ n, n ≤ L.length → ∀ acc : List Int, acc.length ≤ n → Ev (fun k => spec_l19Busy.l0 k acc (n : Int) a b c d L) (acc ++ ((L.drop n).filter (fun x => x.f2)).map (fun x => x.f0)) := by
  refine down ?_ ?_
  · intro acc ha
    refine Ev.to (Ev.next (f := fun _ => some acc) (Ev.now _) fun k => ?_) (by simp)
    simp only [spec_l19Busy.l0]; rw [if_neg (by omega)]
  · intro n hn ih acc ha
    rw [List.drop_eq_getElem_cons hn, List.filter_cons]
    cases hf : L[n].f2 with
    | false =>
      refine Ev.to (Ev.next (ih acc (by omega)) fun k => ?_) (by simp)
      simp only [spec_l19Busy.l0]
      rw [if_pos (by omega), if_pos (by omega), q6_ L n hn, hf, if_neg (by decide), q5_ (by omega)]
    | true =>
      refine Ev.to (Ev.next (ih (acc ++ [L[n].f0]) (by simp; omega)) fun k => ?_) (by simp)
      simp only [spec_l19Busy.l0]
      rw [if_pos (by omega), if_pos (by omega), q6_ L n hn, hf, if_pos rfl, if_pos (by omega), q5_ (by omega)]

theorem sBusyIds_ev (a b c d : Int) (L : List S75) (hl : L.length ≤ 1048576) : Ev (fun k => spec_l19Busy.f k a b c d L) ((L.filter (fun x => x.f2)).map (fun x => x.f0)) := by
  have := sBusyIds_loop a b c d L hl 0 (by omega) [] (by simp)
  simpa [spec_l19Busy.f] using this

theorem busy_ids (L : List S75) : decide ((((L.filter (fun x => x.f2)).map (fun x => x.f0)).length : Int) > 0) = L.any (fun x => x.f2) := by
  rw [Bool.eq_iff_iff, decide_eq_true_eq, List.length_map, List.any_eq_true]
  constructor
  · intro h
    obtain ⟨x, hx⟩ := List.exists_mem_of_length_pos (l := L.filter (fun x => x.f2)) (by omega)
    rw [List.mem_filter] at hx
    exact ⟨x, hx.1, hx.2⟩
  · rintro ⟨x, h1, h2⟩
    have := List.length_pos_of_mem (List.mem_filter.2 ⟨h1, h2⟩)
    exact Int.ofNat_lt.2 this

def branchAt (a : Int) (K : List S75) (B : List S54) (n : Nat) : Bool :=
  decide ((B.getD n z54).f0 = (K.getD n z75).f0) && (decide ((B.getD n z54).f1.f0 = a) &&
    (fairM (B.getD n z54).f1.f0 (B.getD n z54).f1.f1.f0 (B.getD n z54).f1.f1.f1 (B.getD n z54).f1.f1.f2 (B.getD n z54).f1.f2 && ((K.getD n z75).f2 == (B.getD n z54).f1.f2.any (fun x => x.f2))))
def qah_ (a : Int) (K : List S75) (B : List S54) : Nat → Nat → Bool
  | 0, _ => true
  | d + 1, n => branchAt a K B n && qah_ a K B d (n + 1)
def treeM (a b c d : Int) (K : List S75) (B : List S54) : Bool := fairM a b c d K && (decide (B.length = K.length) && qah_ a K B B.length 0)

theorem sTree_loop (a b c d : Int) (K : List S75) (B : List S54) (hk : B.length = K.length) (hl : B.length ≤ 1048576) (hx : ∀ x ∈ B, x.f1.f2.length ≤ 1048576) : ∀ m n, n + m = B.length → Ev (fun k => spec_TreeOk.l0 k (n : Int) a b c d K B) (qah_ a K B m n) := by
  intro m
  induction m with
  | zero =>
    intro n hn
    refine Ev.next (f := fun _ => some _) (Ev.now _) fun k => ?_
    simp only [spec_TreeOk.l0]; rw [if_neg (by omega)]; rfl
  | succ m ih =>
    intro n hn
    have hlt : n < B.length := by omega
    have hkt : n < K.length := by omega
    have hg : B.getD n z54 = B[n] := qay_ _ hlt
    have hgk : K.getD n z75 = K[n] := qay_ _ hkt
    have hxn := hx _ (List.getElem_mem hlt)
    have hr := ih (n + 1) (by omega)
    have hj : ∀ t : Bool, Ev (fun k => spec_TreeOk.j2 k (n : Int) (!t) a b c d K B B[n].f0 B[n].f1.f0 B[n].f1.f1.f0 B[n].f1.f1.f1 B[n].f1.f1.f2 B[n].f1.f2) (t && ((K[n].f2 == B[n].f1.f2.any (fun x => x.f2)) && qah_ a K B m (n + 1))) := by
      intro t
      cases t with
      | false => exact Ev.next (f := fun _ => some false) (Ev.now _) fun k => by simp [spec_TreeOk.j2]
      | true =>
        refine Ev.to (Ev.next (Ev.bind (sBusyIds_ev B[n].f1.f0 B[n].f1.f1.f0 B[n].f1.f1.f1 B[n].f1.f1.f2 B[n].f1.f2 hxn) (f := fun k t171 => if (K[n].f2 != decide ((t171.length : Int) > 0)) = true then some false else spec_TreeOk.l0 k ((n + 1 : Nat) : Int) a b c d K B) (r := (K[n].f2 == B[n].f1.f2.any (fun x => x.f2)) && qah_ a K B m (n + 1)) ?_) fun k => ?_) (by simp)
        · simp only [busy_ids]
          cases hb : (K[n].f2 == B[n].f1.f2.any (fun x => x.f2)) with
          | true => simp only [bne, hb, Bool.not_true, if_neg (show ¬ (false = true) by decide)]; simpa using hr
          | false => simp only [bne, hb, Bool.not_false, if_true]; exact Ev.now _
        · simp only [spec_TreeOk.j2]
          rw [if_neg (by decide), if_pos (by omega), if_pos (by omega), q6_ K n hkt, q5_ (by omega)]
    simp only [qah_, branchAt, hg, hgk]
    by_cases h1 : B[n].f0 = K[n].f0
    · by_cases h2 : B[n].f1.f0 = a
      · refine Ev.to (Ev.next (Ev.bind (sFair_ev B[n].f1.f0 B[n].f1.f1.f0 B[n].f1.f1.f1 B[n].f1.f1.f2 B[n].f1.f2 hxn) (f := fun k t169 => spec_TreeOk.j2 k (n : Int) (!t169) a b c d K B B[n].f0 B[n].f1.f0 B[n].f1.f1.f0 B[n].f1.f1.f1 B[n].f1.f1.f2 B[n].f1.f2) (hj _)) fun k => ?_) (by rw [decide_eq_true h1, decide_eq_true h2]; simp [Bool.and_assoc])
        simp only [spec_TreeOk.l0]; rw [if_pos (by omega), if_pos (by omega), if_pos (by omega), qar_ B n hlt, q6_ K n hkt, if_pos h1, if_pos h2]
      · refine Ev.to (Ev.next (hj false) fun k => ?_) (by rw [decide_eq_false h2]; simp)
        simp only [spec_TreeOk.l0]; rw [if_pos (by omega), if_pos (by omega), if_pos (by omega), qar_ B n hlt, q6_ K n hkt, if_pos h1, if_neg h2]; rfl
    · refine Ev.to (Ev.next (hj false) fun k => ?_) (by rw [decide_eq_false h1]; simp)
      simp only [spec_TreeOk.l0]; rw [if_pos (by omega), if_pos (by omega), if_pos (by omega), qar_ B n hlt, q6_ K n hkt, if_neg h1]; rfl

theorem sTree_ev (a b c d : Int) (K : List S75) (B : List S54) (hk : K.length ≤ 1048576) (hl : B.length ≤ 1048576) (hx : ∀ x ∈ B, x.f1.f2.length ≤ 1048576) : Ev (fun k => spec_TreeOk.f k a b c d K B) (treeM a b c d K B) := by
  have hj : ∀ t : Bool, (t = false → B.length = K.length) → Ev (fun k => spec_TreeOk.j0 k t a b c d K B) (!t && qah_ a K B B.length 0) := by
    intro t ht
    cases t with
    | true => exact Ev.next (f := fun _ => some false) (Ev.now _) fun k => by simp [spec_TreeOk.j0]
    | false => exact Ev.to (Ev.next (sTree_loop a b c d K B (ht rfl) hl hx B.length 0 (by omega)) fun k => by simp [spec_TreeOk.j0]) (by simp)
  unfold spec_TreeOk.f treeM
  refine Ev.bind (sFair_ev a b c d K hk) ?_
  cases fairM a b c d K with
  | false => exact Ev.to (hj true (by simp)) (by simp)
  | true =>
    simp only [if_true]
    refine Ev.to (hj _ (fun h => ?_)) ?_
    · simp at h; omega
    · by_cases h : B.length = K.length
      · simp [h]
      · have : ¬ ((B.length : Int) = (K.length : Int)) := by omega
        simp [h, this]

theorem iTree_loop (a b c d : Int) (K : List S75) (B : List S54) (hk : B.length = K.length) (hl : B.length ≤ 1048576) (hx : ∀ x ∈ B, x.f1.f2.length ≤ 1048576) : ∀ m n, n + m = B.length → Ev (fun k => impl_TreeOk.l0 k B (B.length : Int) (n : Int) a b c d K B) (qah_ a K B m n) := by
  intro m
  induction m with
  | zero =>
    intro n hn
    refine Ev.next (f := fun _ => some _) (Ev.now _) fun k => ?_
    simp only [impl_TreeOk.l0]; rw [if_neg (by omega)]; rfl
  | succ m ih =>
    intro n hn
    have hlt : n < B.length := by omega
    have hkt : n < K.length := by omega
    have hg : B.getD n z54 = B[n] := qay_ _ hlt
    have hgk : K.getD n z75 = K[n] := qay_ _ hkt
    have hxn := hx _ (List.getElem_mem hlt)
    have hr := ih (n + 1) (by omega)
    simp only [qah_, branchAt, hg, hgk]
    by_cases h1 : B[n].f0 = K[n].f0
    · refine Ev.next (Ev.bind (iFair_ev B[n].f1.f0 B[n].f1.f1.f0 B[n].f1.f1.f1 B[n].f1.f1.f2 B[n].f1.f2 hxn) (f := fun k t284 => if t284 = true then (if B[n].f1.f0 = a then ((impl_Fair_isBusy.f k B[n].f1.f0 B[n].f1.f1.f0 B[n].f1.f1.f1 B[n].f1.f1.f2 B[n].f1.f2).bind fun t285 => (if (K[n].f2 != t285) = true then (some false) else (impl_TreeOk.l0 k B (B.length : Int) ((n + 1 : Nat) : Int) a b c d K B))) else (some false)) else (some false)) ?_) fun k => ?_
      · rw [decide_eq_true h1]
        cases fairM B[n].f1.f0 B[n].f1.f1.f0 B[n].f1.f1.f1 B[n].f1.f1.f2 B[n].f1.f2 with
        | false => exact Ev.now' fun k => by simp
        | true =>
          simp only [if_true, Bool.true_and]
          by_cases h2 : B[n].f1.f0 = a
          · simp only [if_pos h2, decide_eq_true h2, Bool.true_and]
            refine Ev.bind (iBusyAny_ev _ _ _ _ _ hxn) ?_
            cases hb : (K[n].f2 == B[n].f1.f2.any (fun x => x.f2)) with
            | true => simp only [bne, hb, Bool.not_true, if_neg (show ¬ (false = true) by decide)]; simpa using hr
            | false => simp only [bne, hb, Bool.not_false, if_true]; exact Ev.now _
          · simp only [if_neg h2, decide_eq_false h2]; exact Ev.now _
      · simp only [impl_TreeOk.l0]; rw [if_pos (by omega), if_pos (by omega), if_pos (by omega), if_pos (by omega), qar_ B n hlt, q6_ K n hkt, if_pos h1, q5_ (by omega)]
    · refine Ev.to (Ev.next (f := fun _ => some false) (Ev.now _) fun k => ?_) (by rw [decide_eq_false h1]; simp)
      simp only [impl_TreeOk.l0]; rw [if_pos (by omega), if_pos (by omega), if_pos (by omega), if_pos (by omega), qar_ B n hlt, q6_ K n hkt, if_neg h1]

theorem iTree_ev (a b c d : Int) (K : List S75) (B : List S54) (hk : K.length ≤ 1048576) (hl : B.length ≤ 1048576) (hx : ∀ x ∈ B, x.f1.f2.length ≤ 1048576) : Ev (fun k => impl_TreeOk.f k a b c d K B) (treeM a b c d K B) := by
  have hj : ∀ t : Bool, (t = false → B.length = K.length) → Ev (fun k => impl_TreeOk.j0 k t a b c d K B) (!t && qah_ a K B B.length 0) := by
    intro t ht
    cases t with
    | true => exact Ev.next (f := fun _ => some false) (Ev.now _) fun k => by simp [impl_TreeOk.j0]
    | false => exact Ev.to (Ev.next (iTree_loop a b c d K B (ht rfl) hl hx B.length 0 (by omega)) fun k => by simp [impl_TreeOk.j0]) (by simp)
  unfold impl_TreeOk.f treeM
  refine Ev.bind (iFair_ev a b c d K hk) ?_
  cases fairM a b c d K with
  | false => exact Ev.to (hj true (by simp)) (by simp)
  | true =>
    simp only [if_true]
    refine Ev.to (hj _ (fun h => ?_)) ?_
    · simp at h; omega
    · by_cases h : B.length = K.length
      · simp [h]
      · have : ¬ ((B.length : Int) = (K.length : Int)) := by omega
        simp [h, this]

theorem set_mid {α : Type} (p t : List α) (x v : α) : (p ++ x :: t).set p.length v = p ++ v :: t := by
  rw [List.set_append_right _ _ (by omega), Nat.sub_self]; rfl
theorem rdK_mid (p t : List S75) (x : S75) : qb_ (p ++ x :: t) (p.length : Int) = x := by
  rw [q6_ _ p.length (by simp)]; simp
theorem rdB_mid (p t : List S54) (x : S54) : qc_ (p ++ x :: t) (p.length : Int) = x := by
  rw [qar_ _ p.length (by simp)]; simp
theorem qat_ {x : Int} (h0 : 0 ≤ x) (h : x < 4611686018427387904) : wrap64 (x + 1) = x + 1 := qa5_ (by omega) (by omega)
/-- What a mark from k on leaves in a kid, in kids, in branches; and where the marks end. -/
def kidAt6 (k : Int) : S75 := ⟨k, k + 1, Int.tmod (k + 1 + 1) 3 == 0, ⟨k + 1 + 1 + 1, k + 1 + 1 + 1 + 1, k + 1 + 1 + 1 + 1 + 1⟩⟩
def qbc_ (k : Int) : List S75 → List S75
  | [] => []
  | _ :: t => kidAt6 k :: qbc_ (k + 6) t
def endB : Int → List S54 → Int
  | k, [] => k
  | k, b :: t => endB (k + 5 + 6 * (b.f1.f2.length : Int)) t
def marksB : Int → List S54 → List S54
  | _, [] => []
  | k, b :: t => ⟨k, ⟨k + 1, ⟨k + 1 + 1, k + 1 + 1 + 1, k + 1 + 1 + 1 + 1⟩, qbc_ (k + 5) b.f1.f2⟩⟩ :: marksB (k + 5 + 6 * (b.f1.f2.length : Int)) t
theorem markKids_loop : ∀ (l p : List S75) (k0 : Int), p.length + l.length ≤ 1048576 → 0 ≤ k0 → k0 + 6 * (l.length : Int) ≤ 1000000000000000 → Ev (fun k => laws_markKidS.l0 k (p ++ l) k0 (p.length : Int)) (k0 + 6 * (l.length : Int), p ++ qbc_ k0 l)
  | [], p, k0, hl, h0, hk => by
    refine Ev.to (Ev.next (f := fun _ => some (k0, p ++ [])) (Ev.now _) fun k => ?_) (by simp [qbc_])
    simp [laws_markKidS.l0]
  | x :: t, p, k0, hl, h0, hk => by
    simp only [List.length_cons] at hl hk
    refine Ev.to (Ev.next (markKids_loop t (p ++ [kidAt6 k0]) (k0 + 6) (by simp; omega) (by omega) (by omega)) fun k => ?_) (by simp [qbc_]; omega)
    simp only [laws_markKidS.l0, Option.bind_some, Int.toNat_natCast]
    rw [if_pos (by simp <;> omega)]; (try rw [if_pos (by omega)])
    simp only [rdK_mid, set_mid]
    rw [qat_ (x := k0) (by omega) (by omega), qat_ (x := k0 + 1) (by omega) (by omega), qat_ (x := k0 + 1 + 1) (by omega) (by omega), qat_ (x := k0 + 1 + 1 + 1) (by omega) (by omega), qat_ (x := k0 + 1 + 1 + 1 + 1) (by omega) (by omega), qat_ (x := k0 + 1 + 1 + 1 + 1 + 1) (by omega) (by omega), q5_ (by omega)]
    rw [show k0 + 1 + 1 + 1 + 1 + 1 + 1 = k0 + 6 by omega]
    simp [kidAt6]
theorem markKids_ev (l : List S75) (k0 : Int) (hl : l.length ≤ 1048576) (h0 : 0 ≤ k0) (hk : k0 ≤ 100000000000000) : Ev (fun k => laws_markKidS.f k l k0) (k0 + 6 * (l.length : Int), qbc_ k0 l) := by
  have := markKids_loop l [] k0 (by simpa using hl) h0 (by omega)
  exact Ev.congr (fun k => by unfold laws_markKidS.f; simp) this
theorem heldKids_loop : ∀ (l p : List S75) (k0 : Int), p.length + l.length ≤ 1048576 → 0 ≤ k0 → k0 + 6 * (l.length : Int) ≤ 1000000000000000 → Ev (fun k => laws_heldKidS.l0 k (p ++ qbc_ k0 l) k0 (p.length : Int)) (k0 + 6 * (l.length : Int))
  | [], p, k0, hl, h0, hk => by
    refine Ev.to (Ev.next (f := fun _ => some k0) (Ev.now _) fun k => ?_) (by simp)
    simp [laws_heldKidS.l0, qbc_]
  | x :: t, p, k0, hl, h0, hk => by
    simp only [List.length_cons] at hl hk
    refine Ev.to (Ev.next (heldKids_loop t (p ++ [kidAt6 k0]) (k0 + 6) (by simp; omega) (by omega) (by omega)) fun k => ?_) (by simp; omega)
    rw [show qbc_ k0 (x :: t) = kidAt6 k0 :: qbc_ (k0 + 6) t from rfl]
    simp only [laws_heldKidS.l0]
    rw [if_pos (show (p.length : Int) < ((p ++ kidAt6 k0 :: qbc_ (k0 + 6) t).length : Int) by simp <;> omega)]; (try rw [if_pos (by omega)])
    simp only [rdK_mid]
    rw [qat_ (x := k0) (by omega) (by omega), qat_ (x := k0 + 1) (by omega) (by omega), qat_ (x := k0 + 1 + 1) (by omega) (by omega), qat_ (x := k0 + 1 + 1 + 1) (by omega) (by omega), qat_ (x := k0 + 1 + 1 + 1 + 1) (by omega) (by omega), qat_ (x := k0 + 1 + 1 + 1 + 1 + 1) (by omega) (by omega), q5_ (by omega)]
    rw [show k0 + 1 + 1 + 1 + 1 + 1 + 1 = k0 + 6 by omega]
    simp [kidAt6]
theorem heldKids_ev (l : List S75) (k0 : Int) (hl : l.length ≤ 1048576) (h0 : 0 ≤ k0) (hk : k0 ≤ 100000000000000) : Ev (fun k => laws_heldKidS.f k (qbc_ k0 l) k0) (k0 + 6 * (l.length : Int)) := by
  have := heldKids_loop l [] k0 (by simpa using hl) h0 (by omega)
  exact Ev.congr (fun k => by unfold laws_heldKidS.f; simp) this
theorem endB_ge : ∀ (l : List S54) (k : Int), k ≤ endB k l
  | [], k => by simp [endB]
  | b :: t, k => by have := endB_ge t (k + 5 + 6 * (b.f1.f2.length : Int)); simp only [endB]; omega
theorem markBranches_loop : ∀ (l p : List S54) (k0 : Int), p.length + l.length ≤ 1048576 → (∀ x ∈ l, x.f1.f2.length ≤ 1048576) → 0 ≤ k0 → k0 + 8000000 * (l.length : Int) ≤ 100000000000000 → Ev (fun k => laws_markBranchS.l0 k (p ++ l) k0 (p.length : Int)) (endB k0 l, p ++ marksB k0 l)
  | [], p, k0, hl, hx, h0, hk => by
    refine Ev.to (Ev.next (f := fun _ => some (k0, p ++ [])) (Ev.now _) fun k => ?_) (by simp [marksB, endB])
    simp [laws_markBranchS.l0]
  | b :: t, p, k0, hl, hx, h0, hk => by
    simp only [List.length_cons] at hl hk
    have hb : b.f1.f2.length ≤ 1048576 := hx b (by simp)
    refine Ev.next (f := fun k => (laws_markKidS.f k b.f1.f2 (k0 + 5)).bind fun bt => laws_markBranchS.l0 k (p ++ (⟨k0, ⟨k0 + 1, ⟨k0 + 1 + 1, k0 + 1 + 1 + 1, k0 + 1 + 1 + 1 + 1⟩, bt.2⟩⟩ : S54) :: t) bt.1 ((p.length + 1 : Nat) : Int)) (Ev.bind (markKids_ev b.f1.f2 (k0 + 5) hb (by omega) (by omega)) ?_) fun k => ?_
    · have := markBranches_loop t (p ++ [⟨k0, ⟨k0 + 1, ⟨k0 + 1 + 1, k0 + 1 + 1 + 1, k0 + 1 + 1 + 1 + 1⟩, qbc_ (k0 + 5) b.f1.f2⟩⟩]) (k0 + 5 + 6 * (b.f1.f2.length : Int)) (by simp; omega) (fun x hm => hx x (by simp [hm])) (by omega) (by omega)
      simpa [marksB, endB] using this
    · simp only [laws_markBranchS.l0, Option.bind_some, Int.toNat_natCast]
      rw [if_pos (by simp <;> omega)]; (try rw [if_pos (by omega)])
      simp only [rdB_mid, set_mid]
      rw [qat_ (x := k0) (by omega) (by omega), qat_ (x := k0 + 1) (by omega) (by omega), qat_ (x := k0 + 1 + 1) (by omega) (by omega), qat_ (x := k0 + 1 + 1 + 1) (by omega) (by omega), qat_ (x := k0 + 1 + 1 + 1 + 1) (by omega) (by omega), q5_ (by omega)]
      rw [show k0 + 1 + 1 + 1 + 1 + 1 = k0 + 5 by omega]
theorem markBranches_ev (l : List S54) (k0 : Int) (hl : l.length ≤ 1048576) (hx : ∀ x ∈ l, x.f1.f2.length ≤ 1048576) (h0 : 0 ≤ k0) (hk : k0 ≤ 10000000000000) : Ev (fun k => laws_markBranchS.f k l k0) (endB k0 l, marksB k0 l) := by
  have := markBranches_loop l [] k0 (by simpa using hl) hx h0 (by omega)
  exact Ev.congr (fun k => by unfold laws_markBranchS.f; simp) this
theorem heldBranches_loop : ∀ (l p : List S54) (k0 : Int), p.length + l.length ≤ 1048576 → (∀ x ∈ l, x.f1.f2.length ≤ 1048576) → 0 ≤ k0 → k0 + 8000000 * (l.length : Int) ≤ 100000000000000 → Ev (fun k => laws_heldBranchS.l0 k (p ++ marksB k0 l) k0 (p.length : Int)) (endB k0 l)
  | [], p, k0, hl, hx, h0, hk => by
    refine Ev.to (Ev.next (f := fun _ => some k0) (Ev.now _) fun k => ?_) (by simp [endB])
    simp [laws_heldBranchS.l0, marksB]
  | b :: t, p, k0, hl, hx, h0, hk => by
    simp only [List.length_cons] at hl hk
    have hb : b.f1.f2.length ≤ 1048576 := hx b (by simp)
    refine Ev.next (f := fun k => (laws_heldKidS.f k (qbc_ (k0 + 5) b.f1.f2) (k0 + 5)).bind fun s => if s < 0 then some (-1) else laws_heldBranchS.l0 k (p ++ marksB k0 (b :: t)) s ((p.length + 1 : Nat) : Int)) (Ev.bind (heldKids_ev b.f1.f2 (k0 + 5) hb (by omega) (by omega)) ?_) fun k => ?_
    · have := heldBranches_loop t (p ++ [⟨k0, ⟨k0 + 1, ⟨k0 + 1 + 1, k0 + 1 + 1 + 1, k0 + 1 + 1 + 1 + 1⟩, qbc_ (k0 + 5) b.f1.f2⟩⟩]) (k0 + 5 + 6 * (b.f1.f2.length : Int)) (by simp; omega) (fun x hm => hx x (by simp [hm])) (by omega) (by omega)
      simp only [if_neg (show ¬ (k0 + 5 + 6 * (b.f1.f2.length : Int) < 0) by omega)]
      simpa [marksB, endB] using this
    · simp only [laws_heldBranchS.l0, marksB]
      rw [if_pos (by simp <;> omega)]; (try rw [if_pos (by omega)])
      simp only [rdB_mid]
      rw [qat_ (x := k0) (by omega) (by omega), qat_ (x := k0 + 1) (by omega) (by omega), qat_ (x := k0 + 1 + 1) (by omega) (by omega), qat_ (x := k0 + 1 + 1 + 1) (by omega) (by omega), qat_ (x := k0 + 1 + 1 + 1 + 1) (by omega) (by omega), q5_ (by omega)]
      rw [show k0 + 1 + 1 + 1 + 1 + 1 = k0 + 5 by omega]
      simp <;> (intro h; omega)
theorem heldBranches_ev (l : List S54) (k0 : Int) (hl : l.length ≤ 1048576) (hx : ∀ x ∈ l, x.f1.f2.length ≤ 1048576) (h0 : 0 ≤ k0) (hk : k0 ≤ 10000000000000) : Ev (fun k => laws_heldBranchS.f k (marksB k0 l) k0) (endB k0 l) := by
  have := heldBranches_loop l [] k0 (by simpa using hl) hx h0 (by omega)
  exact Ev.congr (fun k => by unfold laws_heldBranchS.f; simp) this
def endT (K : List S75) (B : List S54) : Int := endB (1 + 6 * (K.length : Int)) B
theorem endT_pos (K : List S75) (B : List S54) : ¬ endT K B < 0 := by have := endB_ge B (1 + 6 * (K.length : Int)); unfold endT; omega
theorem markTree_ev (a b c d : Int) (K : List S75) (B : List S54) (hk : K.length ≤ 1048576) (hl : B.length ≤ 1048576) (hx : ∀ x ∈ B, x.f1.f2.length ≤ 1048576) : Ev (fun k => laws_markTree.f k a b c d K B 1) (endT K B, qbc_ 1 K, marksB (1 + 6 * (K.length : Int)) B) := by
  unfold laws_markTree.f laws_markFair.f
  refine Ev.bind (Ev.bind (markKids_ev K 1 hk (by omega) (by omega)) (f := fun _ bt => some (bt.1, bt.2)) (Ev.now _)) ?_
  exact Ev.bind (markBranches_ev B (1 + 6 * (K.length : Int)) hl hx (by omega) (by omega)) (f := fun _ bt => some (bt.1, qbc_ 1 K, bt.2)) (Ev.now _)
theorem heldTree_ev (a b c d : Int) (K : List S75) (B : List S54) (hk : K.length ≤ 1048576) (hl : B.length ≤ 1048576) (hx : ∀ x ∈ B, x.f1.f2.length ≤ 1048576) : Ev (fun k => laws_heldTree.f k a b c d (qbc_ 1 K) (marksB (1 + 6 * (K.length : Int)) B) 1) (endT K B) := by
  unfold laws_heldTree.f laws_heldFair.f
  refine Ev.bind (Ev.bind (heldKids_ev K 1 hk (by omega) (by omega)) (f := fun _ s => if s < 0 then some (-1) else some s) (Ev.now' fun _ => if_neg (by omega))) ?_
  simp only [if_neg (show ¬ (1 + 6 * (K.length : Int) < 0) by omega)]
  exact Ev.bind (heldBranches_ev B (1 + 6 * (K.length : Int)) hl hx (by omega) (by omega)) (f := fun _ s => if s < 0 then some (-1) else some s) (Ev.now' fun _ => if_neg (endT_pos K B))

theorem iCopy_loop (a' b' c' d' : Int) (K' : List S75) (B : List S54) (hl : B.length ≤ 1048576) (hx : ∀ x ∈ B, x.f1.f2.length ≤ 1048576) : ∀ n, n ≤ B.length → ∀ acc : List S54, acc.length ≤ n → Ev (fun k => impl_copyTree.l0 k B (B.length : Int) (n : Int) a' b' c' d' K' acc) (a', b', c', d', K', acc ++ B.drop n) := by
  refine down ?_ ?_
  · intro acc ha
    refine Ev.to (Ev.next (f := fun _ => some (a', b', c', d', K', acc)) (Ev.now _) fun k => ?_) (by simp)
    simp only [impl_copyTree.l0]; rw [if_neg (by omega)]
  · intro n hn ih acc ha
    have hb := hx _ (List.getElem_mem hn)
    refine Ev.to (Ev.next (ih (acc ++ [B[n]]) (by simp; omega)) fun k => ?_) (by rw [List.drop_eq_getElem_cons hn]; simp)
    simp only [impl_copyTree.l0]
    rw [if_pos (by omega), if_pos (by omega), if_pos (by omega), qar_ B n hn]
    simp only [impl_copyFair.f, slices_Clone_impl_Kid_impl_Kid.f, Option.bind_some]
    rw [if_pos (by simp <;> omega)]
    simp only [Option.bind_some, if_pos (show acc.length < 2199023255552 by omega), q5_ (show n < 4611686018427387904 by omega), List.nil_append]
theorem iCopyTree_ev (a b c d : Int) (K : List S75) (B : List S54) (hk : K.length ≤ 1048576) (hl : B.length ≤ 1048576) (hx : ∀ x ∈ B, x.f1.f2.length ≤ 1048576) : Ev (fun k => impl_copyTree.f k a b c d K B) (a, b, c, d, K, B) := by
  refine Ev.to (Ev.congr (fun k => ?_) (iCopy_loop a b c d K B hl hx 0 (by omega) [] (by simp))) (by simp)
  unfold impl_copyTree.f
  simp only [impl_copyFair.f, slices_Clone_impl_Kid_impl_Kid.f, Option.bind_some]
  rw [if_pos (by simp <;> omega)]
  simp

def fairPickM (a b c d : Int) (L : List S75) : Int := if fairM a b c d L = true then (if pickM L < 0 then -1 else (qb_ L (pickM L)).f0) else -1

theorem sPick_loop (a b c d : Int) (L : List S75) (hl : L.length ≤ 1048576) : ∀ m n, n + m = L.length → ∀ x : Int, x < L.length → Ev (fun k => spec_FairPick.l0 k x (n : Int) a b c d L) (if qa8_ L m n x < 0 then -1 else (qb_ L (qa8_ L m n x)).f0) := by
  intro m
  induction m with
  | zero =>
    intro n hn x hx
    rw [show qa8_ L 0 n x = x from rfl]
    refine Ev.next (f := fun _ => some _) (Ev.now _) fun k => ?_
    simp only [spec_FairPick.l0]; rw [if_neg (by omega)]
    by_cases h0 : x < 0
    · rw [if_pos h0, if_pos h0]
    · rw [if_neg h0, if_neg h0, if_pos (by omega), if_pos (by omega)]
  | succ m ih =>
    intro n hn x hx
    have hlt : n < L.length := by omega
    have hg : L.getD n z75 = L[n] := qay_ _ hlt
    refine Ev.next (ih (n + 1) (by omega) (qbd_ L x n) (pickStep_lt hx hlt)) fun k => ?_
    simp only [spec_FairPick.l0, spec_VecTop.f, Option.bind_some]
    rw [if_pos (by omega), if_pos (by omega), q6_ L n hlt, q5_ (by omega)]
    unfold qbd_; rw [hg]
    cases hf : L[n].f2 with
    | false => simp
    | true =>
      simp only [if_true]
      by_cases h0 : x < 0
      · rw [if_pos h0, if_pos h0]
      · rw [if_neg h0, if_neg h0, if_pos (by omega), if_pos (by omega)]
        by_cases h1 : topK L[n] < topK (qb_ L x)
        · rw [if_pos h1, if_pos h1]
        · rw [if_neg h1, if_neg h1]

theorem sFairPick_ev (a b c d : Int) (L : List S75) (hl : L.length ≤ 1048576) : Ev (fun k => spec_FairPick.f k a b c d L) (fairPickM a b c d L) := by
  unfold spec_FairPick.f fairPickM
  refine Ev.bind (sFair_ev a b c d L hl) ?_
  cases fairM a b c d L with
  | false => exact Ev.now' fun k => by simp
  | true => simp only [if_true]; exact sPick_loop a b c d L hl L.length 0 (by omega) (-1) (by omega)


theorem kidsFrom_at {a t : Int} {L : List S75} : ∀ m n, n + m = L.length → qa9_ a t L m n = true → ∀ i, n ≤ i → i < L.length → kidAt a t L i = true := by
  intro m
  induction m with
  | zero => intro n hn _ i h1 h2; omega
  | succ m ih =>
    intro n hn h i h1 h2
    rw [qa9_, Bool.and_eq_true] at h
    by_cases e : i = n
    · subst e; exact h.1
    · exact ih (n + 1) (by omega) h.2 i (by omega) h2

theorem incr_lt {L : List S75} (hs : ∀ n (hn : n + 1 < L.length), (L[n]'(by omega)).f0 < L[n + 1].f0) : ∀ m j (h : j + m + 1 < L.length), (L[j]'(by omega)).f0 < L[j + m + 1].f0 := by
  intro m
  induction m with
  | zero => intro j h; exact hs j h
  | succ m ih =>
    intro j h
    have h1 := ih j (by omega)
    have h2 := hs (j + m + 1) h
    show _ < L[j + m + 1 + 1].f0
    omega

theorem fair_at {a b c d : Int} {L : List S75} (h : fairM a b c d L = true) {i : Nat} (hi : i < L.length) : 0 ≤ L[i].f0 ∧ ∀ j (hj : j < i), (L[j]'(by omega)).f0 < L[i].f0 := by
  unfold fairM at h
  simp only [Bool.and_eq_true] at h
  have hk := kidsFrom_at L.length 0 (by omega) h.2.2.2
  have hg : ∀ n (hn : n < L.length), L.getD n z75 = L[n] := fun n hn => qay_ _ hn
  have h0 : ∀ n (hn : n < L.length), 0 ≤ L[n].f0 := by
    intro n hn
    have := hk n (by omega) hn
    unfold kidAt kid1 at this
    rw [hg n hn] at this
    simp only [Bool.and_eq_true, decide_eq_true_eq] at this
    exact this.1.1.1
  have hs : ∀ n (hn : n + 1 < L.length), (L[n]'(by omega)).f0 < L[n + 1].f0 := by
    intro n hn
    have := hk (n + 1) (by omega) hn
    unfold kidAt ordAt at this
    rw [hg (n + 1) hn, show n + 1 - 1 = n from rfl, hg n (by omega)] at this
    simp only [Bool.and_eq_true, Bool.or_eq_true, decide_eq_true_eq] at this
    rcases this.2.2 with h | h
    · omega
    · exact h
  refine ⟨h0 i hi, fun j hj => ?_⟩
  obtain ⟨m, rfl⟩ : ∃ m, i = j + m + 1 := ⟨i - j - 1, by omega⟩
  exact incr_lt hs m j hi


def idI (id : Int) : List Int → Nat → Int
  | [], _ => -1
  | x :: t, n => if x = id then (n : Int) else idI id t (n + 1)
theorem idI_cases (id : Int) : ∀ (l : List Int) (n : Nat), idI id l n = -1 ∨ ∃ j, n ≤ j ∧ j < n + l.length ∧ idI id l n = (j : Int)
  | [], n => .inl rfl
  | x :: t, n => by
    unfold idI
    by_cases h : x = id
    · rw [if_pos h]; exact .inr ⟨n, by omega, by simp <;> omega, rfl⟩
    · rw [if_neg h]
      rcases idI_cases id t (n + 1) with e | ⟨j, h1, h2, e⟩
      · exact .inl e
      · exact .inr ⟨j, by omega, by simp <;> omega, e⟩
def atK (id : Int) (K : List S75) : Int := idI id (K.map (fun x => x.f0)) 0
theorem atK_cases (id : Int) (K : List S75) : atK id K = -1 ∨ ∃ j : Nat, j < K.length ∧ atK id K = (j : Int) := by
  rcases idI_cases id (K.map (fun x => x.f0)) 0 with e | ⟨j, _, h, e⟩
  · exact .inl e
  · exact .inr ⟨j, by simpa using h, e⟩
theorem sAtK_loop (id a b c d : Int) (K : List S75) (hl : K.length ≤ 1048576) : ∀ n, n ≤ K.length → Ev (fun k => spec_l18At.l0 k id (n : Int) a b c d K) (idI id ((K.drop n).map (fun x => x.f0)) n) := by
  refine down ?_ ?_
  · refine Ev.to (Ev.next (f := fun _ => some (-1)) (Ev.now _) fun k => ?_) (by simp [idI])
    simp only [spec_l18At.l0]; rw [if_neg (by omega)]
  · intro n hn ih
    rw [List.drop_eq_getElem_cons hn, List.map_cons]
    by_cases h : K[n].f0 = id
    · refine Ev.to (Ev.next (f := fun _ => some (n : Int)) (Ev.now _) fun k => ?_) (by simp [idI, h])
      simp only [spec_l18At.l0]; rw [if_pos (by omega), if_pos (by omega), q6_ K n hn, if_pos h]
    · refine Ev.to (Ev.next ih fun k => ?_) (by simp [idI, h])
      simp only [spec_l18At.l0]; rw [if_pos (by omega), if_pos (by omega), q6_ K n hn, if_neg h, q5_ (by omega)]
theorem sAtK_ev (id a b c d : Int) (K : List S75) (hl : K.length ≤ 1048576) : Ev (fun k => spec_l18At.f k a b c d K id) (atK id K) := by
  have h := sAtK_loop id a b c d K hl 0 (by omega)
  simpa [spec_l18At.f, atK] using h
theorem iAtK_loop (id : Int) (K : List S75) (hl : K.length ≤ 1048576) : ∀ n, n ≤ K.length → Ev (fun k => slices_IndexFunc_impl_Kid_impl_Kid.l0 k K (fun z0_ z1_ z2_ z3_ z4_ z5_ => impl_Fair_at_1.f z0_ z1_ z2_ z3_ z4_ z5_ id) (K.length : Int) (n : Int)) (idI id ((K.drop n).map (fun x => x.f0)) n) := by
  refine down ?_ ?_
  · refine Ev.to (Ev.next (f := fun _ => some (-1)) (Ev.now _) fun k => ?_) (by simp [idI])
    simp only [slices_IndexFunc_impl_Kid_impl_Kid.l0]; rw [if_neg (by omega)]
  · intro n hn ih
    rw [List.drop_eq_getElem_cons hn, List.map_cons]
    by_cases h : K[n].f0 = id
    · refine Ev.to (Ev.next (f := fun _ => some (n : Int)) (Ev.now _) fun k => ?_) (by simp [idI, h])
      simp only [slices_IndexFunc_impl_Kid_impl_Kid.l0, impl_Fair_at_1.f]; rw [if_pos (by omega), if_pos (by omega), if_pos (by omega), q6_ K n hn]; simp [h]
    · refine Ev.to (Ev.next ih fun k => ?_) (by simp [idI, h])
      simp only [slices_IndexFunc_impl_Kid_impl_Kid.l0, impl_Fair_at_1.f]; rw [if_pos (by omega), if_pos (by omega), if_pos (by omega), q6_ K n hn, q5_ (by omega)]; simp [h]
theorem iAtK_ev (id a b c d : Int) (K : List S75) (hl : K.length ≤ 1048576) : Ev (fun k => impl_Fair_at.f k a b c d K id) (atK id K) := by
  have h := iAtK_loop id K hl 0 (by omega)
  unfold impl_Fair_at.f slices_IndexFunc_impl_Kid_impl_Kid.f
  exact Ev.bind (f := fun _ t => some t) (by simpa [atK] using h) (Ev.now _)
def zF : S34 := ⟨0, ⟨0, 0, 0⟩, []⟩

theorem sCharge_eq (a b c : Int) : spec_ChargeOk.f a b c = some (vFrom a b c 1 2000) := by
  unfold spec_ChargeOk.f; rw [sAll_eq]; rfl

theorem iCharge_eq (a b c : Int) : impl_ChargeOk.f a b c = some (vFrom a b c 1 2000) := by
  unfold impl_ChargeOk.f; rw [iFrom_eq]; rfl

theorem Ev.unf {α : Type} {g : Nat → Option α} {r : α} (h : Ev (fun k => g (k + 1)) r) : Ev g r := Ev.next h fun _ => rfl
theorem idI_none {id : Int} : ∀ (l : List Int) (n : Nat), (∀ x ∈ l, x ≠ id) → idI id l n = -1
  | [], _, _ => rfl
  | x :: t, n, h => by
    unfold idI
    rw [if_neg (h x (by simp))]
    exact idI_none t (n + 1) fun y hy => h y (by simp [hy])
theorem idI_at {id : Int} : ∀ (l : List Int) (n p : Nat) (hp : p < l.length), l[p] = id → (∀ j (hj : j < p), (l[j]'(by omega)) ≠ id) → idI id l n = ((n + p : Nat) : Int)
  | x :: t, n, 0, _, e, _ => by
    unfold idI
    rw [if_pos (by simpa using e)]; simp
  | x :: t, n, p + 1, hp, e, hne => by
    unfold idI
    rw [if_neg (by have := hne 0 (by omega); simpa using this), idI_at t (n + 1) p (by simpa using hp) (by simpa using e) (fun j hj => by have := hne (j + 1) (by omega); simpa using this)]
    congr 1; omega
theorem atK_pick {a b c d : Int} {K : List S75} (h : fairM a b c d K = true) {p : Nat} (hp : p < K.length) : atK K[p].f0 K = (p : Int) := by
  unfold atK
  rw [idI_at _ 0 p (by simpa using hp) (by simp) (fun j hj => by have := (fair_at h hp).2 j hj; simp; omega)]; simp
theorem atK_none {a b c d : Int} {K : List S75} (h : fairM a b c d K = true) : atK (-1) K = -1 := by
  unfold atK
  refine idI_none _ 0 fun x hx => ?_
  obtain ⟨y, hy, rfl⟩ := List.mem_map.1 hx
  obtain ⟨i, hi, rfl⟩ := List.getElem_of_mem hy
  have := (fair_at h hi).1
  omega
def addM (a b w : Int) : Int := wrap64 (a + wrap64 (b * qa7_ w))
def finM (a b c x y z w : Int) : Int × Int × Int × Bool :=
  if (vFrom a b c 0 1000000000000 && (vFrom x y z 1 2000 && decide (1 ≤ w ∧ w ≤ 10))) = true then
    (if vFrom (addM a x w) (addM b y w) (addM c z w) 0 1000000000000 = true then (addM a x w, addM b y w, addM c z w, true) else (0, 0, 0, false))
  else (0, 0, 0, false)
theorem sTag_eq (a b c : Int) : spec_TagOk.f a b c = some (vFrom a b c 0 1000000000000) := by unfold spec_TagOk.f; rw [sAll_eq]; rfl
theorem iTag_eq (a b c : Int) : impl_TagOk.f a b c = some (vFrom a b c 0 1000000000000) := by unfold impl_TagOk.f; rw [iFrom_eq]; rfl
theorem sFin_l (w a b c x y z : Int) : Ev (fun k => spec_Finish.l0 k w [a, b, c] [x, y, z] 0) (if vFrom (addM a x w) (addM b y w) (addM c z w) 0 1000000000000 = true then (addM a x w, addM b y w, addM c z w, true) else (0, 0, 0, false)) := by
  have w1 : wrap64 (0 + 1) = 1 := qa5_ (x := 0 + 1) (by decide) (by decide)
  have w2 : wrap64 (1 + 1) = 2 := qa5_ (x := 1 + 1) (by decide) (by decide)
  have w3 : wrap64 (2 + 1) = 3 := qa5_ (x := 2 + 1) (by decide) (by decide)
  refine Ev.next (f := fun k => spec_Finish.l0 k w [addM a x w, b, c] [x, y, z] 1) ?_ fun k => ?_
  · refine Ev.next (f := fun k => spec_Finish.l0 k w [addM a x w, addM b y w, c] [x, y, z] 2) ?_ fun k => ?_
    · refine Ev.next (f := fun k => spec_Finish.l0 k w [addM a x w, addM b y w, addM c z w] [x, y, z] 3) ?_ fun k => ?_
      · refine Ev.next (f := fun _ => _) (Ev.now _) fun k => ?_
        simp only [spec_Finish.l0]
        rw [if_neg (by decide)]
        simp only [spec_l13Of.f]
        rw [if_pos (by simp), if_pos (by simp), if_pos (by simp)]
        simp only [Option.bind_some, sTag_eq]
        change (if vFrom (addM a x w) (addM b y w) (addM c z w) 0 1000000000000 = true then _ else _) = _
        cases vFrom (addM a x w) (addM b y w) (addM c z w) 0 1000000000000
        · rfl
        · rfl
      · simp only [spec_Finish.l0]
        rw [if_pos (by decide), if_pos (by decide), if_pos (by simp), if_pos (by simp), qa1_, Option.bind_some, w3]; rfl
    · simp only [spec_Finish.l0]
      rw [if_pos (by decide), if_pos (by decide), if_pos (by simp), if_pos (by simp), qa1_, Option.bind_some, w2]; rfl
  · simp only [spec_Finish.l0]
    rw [if_pos (by decide), if_pos (by decide), if_pos (by simp), if_pos (by simp), qa1_, Option.bind_some, w1]; rfl
theorem sFinish_ev (a b c x y z w : Int) : Ev (fun k => spec_Finish.f k a b c x y z w) (finM a b c x y z w) := by
  have hj : Ev (fun k => spec_Finish.j0 k w true a b c x y z) (0, 0, 0, false) := Ev.next (f := fun _ => some (0, 0, 0, false)) (Ev.now _) fun k => by simp only [spec_Finish.j0, if_true]
  unfold spec_Finish.f finM
  simp only [sTag_eq, Option.bind_some, sCharge_eq, qa1_]
  cases h1 : vFrom a b c 0 1000000000000 with
  | false => simpa using hj
  | true =>
    cases h2 : vFrom x y z 1 2000 with
    | false => simpa using hj
    | true =>
      by_cases h3 : 1 ≤ w ∧ w ≤ 10
      · have h4 : (qa7_ w == 0) = false := beq_eq_false_iff_ne.2 fun e => absurd h3 ((stride_zero w).1 e)
        simp only [if_true, h4, decide_eq_true h3, Bool.and_self]
        refine Ev.unf ?_
        simp only [spec_Finish.j0, if_neg (show ¬ (false = true) by decide), spec_l13List.f, Option.bind_some]
        exact sFin_l w a b c x y z
      · have h4 : (qa7_ w == 0) = true := beq_iff_eq.2 ((stride_zero w).2 h3)
        simp only [if_true, h4, decide_eq_false h3]
        simpa using hj
theorem iFinish_ev (a b c x y z w : Int) : Ev (fun k => impl_Finish.f k a b c x y z w) (finM a b c x y z w) := by
  have hj : Ev (fun k => impl_Finish.j0 k true a b c x y z w) (0, 0, 0, false) := Ev.next (f := fun _ => some (0, 0, 0, false)) (Ev.now _) fun k => by simp only [impl_Finish.j0, if_true]
  unfold impl_Finish.f finM
  simp only [iTag_eq, Option.bind_some, iCharge_eq, isWeight_eq]
  cases h1 : vFrom a b c 0 1000000000000 with
  | false => simpa using hj
  | true =>
    cases h2 : vFrom x y z 1 2000 with
    | false => simpa using hj
    | true =>
      by_cases h3 : 1 ≤ w ∧ w ≤ 10
      · simp only [if_true, decide_eq_true h3, Bool.and_self, Bool.not_true]
        refine Ev.unf (Ev.now' fun k => ?_)
        simp only [impl_Finish.j0, if_neg (show ¬ (false = true) by decide), impl_both.f, impl_Finish_1.f, iStride_eq, Option.bind_some, iTag_eq]
        change (if vFrom (addM a x w) (addM b y w) (addM c z w) 0 1000000000000 = true then _ else _) = _
        cases vFrom (addM a x w) (addM b y w) (addM c z w) 0 1000000000000
        · rfl
        · rfl
      · simp only [if_true, decide_eq_false h3]
        simpa using hj
def dovM (a b c d : Int) : Int × Int × Int :=
  if (vFrom a b c 0 1000000000000 && decide (0 ≤ d ∧ d ≤ 10000000)) = true then (mx a (wrap64 (mx (mx a b) c - d)), mx b (wrap64 (mx (mx a b) c - d)), mx c (wrap64 (mx (mx a b) c - d))) else (0, 0, 0)
theorem sDelta_eq (d : Int) : spec_l13Delta.f d = some (decide (0 ≤ d ∧ d ≤ 10000000)) := by
  unfold spec_l13Delta.f
  by_cases h : d ≥ 0
  · rw [if_pos h]; congr 1; exact decide_eq_decide.2 (by omega)
  · rw [if_neg h, decide_eq_false (by omega)]
theorem iDelta_eq (d : Int) : impl_isDelta.f d = some (decide (0 ≤ d ∧ d ≤ 10000000)) := by unfold impl_isDelta.f; rw [within_eq]; rfl
theorem sDove_ev (a b c d : Int) : Ev (fun k => spec_Dovetail.f k a b c d) (dovM a b c d) := by
  have hj : Ev (fun k => spec_Dovetail.j0 k d true a b c) (0, 0, 0) := Ev.next (f := fun _ => some (0, 0, 0)) (Ev.now _) fun k => by simp only [spec_Dovetail.j0, if_true]
  have w1 : wrap64 (0 + 1) = 1 := qa5_ (x := 0 + 1) (by decide) (by decide)
  have w2 : wrap64 (1 + 1) = 2 := qa5_ (x := 1 + 1) (by decide) (by decide)
  have w3 : wrap64 (2 + 1) = 3 := qa5_ (x := 2 + 1) (by decide) (by decide)
  unfold spec_Dovetail.f dovM
  simp only [sTag_eq, Option.bind_some, sDelta_eq]
  cases h1 : vFrom a b c 0 1000000000000 with
  | false => simpa using hj
  | true =>
    by_cases h3 : 0 ≤ d ∧ d ≤ 10000000
    · simp only [if_true, decide_eq_true h3, Bool.and_self, Bool.not_true]
      refine Ev.unf ?_
      simp only [spec_Dovetail.j0, if_neg (show ¬ (false = true) by decide), spec_l13List.f, Option.bind_some]
      generalize hT : wrap64 (mx (mx a b) c - d) = T
      refine Ev.next (f := fun k => spec_Dovetail.l0 k d [mx a T, b, c] 1 a b c) ?_ fun k => ?_
      · refine Ev.next (f := fun k => spec_Dovetail.l0 k d [mx a T, mx b T, c] 2 a b c) ?_ fun k => ?_
        · refine Ev.next (f := fun k => spec_Dovetail.l0 k d [mx a T, mx b T, mx c T] 3 a b c) ?_ fun k => ?_
          · refine Ev.next (f := fun _ => _) (Ev.now _) fun k => ?_
            simp only [spec_Dovetail.l0]
            rw [if_neg (by decide)]
            simp only [spec_l13Of.f]
            rw [if_pos (by simp), if_pos (by simp), if_pos (by simp)]; rfl
          · simp only [spec_Dovetail.l0, spec_VecTop.f]
            rw [if_pos (by decide), if_pos (by decide), if_pos (by simp), Option.bind_some, w3, hT]; rfl
        · simp only [spec_Dovetail.l0, spec_VecTop.f]
          rw [if_pos (by decide), if_pos (by decide), if_pos (by simp), Option.bind_some, w2, hT]; rfl
      · simp only [spec_Dovetail.l0, spec_VecTop.f]
        rw [if_pos (by decide), if_pos (by decide), if_pos (by simp), Option.bind_some, w1, hT]; rfl
    · simp only [if_true, decide_eq_false h3]
      simpa using hj
theorem iDove_eq (a b c d : Int) : impl_Dovetail.f a b c d = some (dovM a b c d) := by
  unfold impl_Dovetail.f dovM
  simp only [iTag_eq, Option.bind_some, iDelta_eq]
  cases vFrom a b c 0 1000000000000 with
  | false => rfl
  | true =>
    by_cases h3 : 0 ≤ d ∧ d ≤ 10000000
    · simp only [if_true, decide_eq_true h3, Bool.and_self, impl_Vec_each.f, impl_Dovetail_1.f, impl_VecTop.f, Option.bind_some]
    · simp only [if_true, decide_eq_false h3]; rfl
def serveK (a : Int) (x : S75) (p q r : Int) (more : Bool) : S75 :=
  ⟨x.f0, x.f1, more, ⟨(dovM (finM x.f3.f0 x.f3.f1 x.f3.f2 p q r x.f1).1 (finM x.f3.f0 x.f3.f1 x.f3.f2 p q r x.f1).2.1 (finM x.f3.f0 x.f3.f1 x.f3.f2 p q r x.f1).2.2.1 a).1, (dovM (finM x.f3.f0 x.f3.f1 x.f3.f2 p q r x.f1).1 (finM x.f3.f0 x.f3.f1 x.f3.f2 p q r x.f1).2.1 (finM x.f3.f0 x.f3.f1 x.f3.f2 p q r x.f1).2.2.1 a).2.1, (dovM (finM x.f3.f0 x.f3.f1 x.f3.f2 p q r x.f1).1 (finM x.f3.f0 x.f3.f1 x.f3.f2 p q r x.f1).2.1 (finM x.f3.f0 x.f3.f1 x.f3.f2 p q r x.f1).2.2.1 a).2.2⟩⟩
def serveF (a b c d : Int) (K : List S75) (p q r : Int) (more : Bool) : S34 × Int :=
  if (fairM a b c d K && vFrom p q r 1 2000) = true then
    (if pickM K < 0 then (zF, 4) else
      if mx (mx (mx b (qb_ K (pickM K)).f3.f0) (mx c (qb_ K (pickM K)).f3.f1)) (mx d (qb_ K (pickM K)).f3.f2) > 100000000000 then (zF, 7) else
        (⟨a, ⟨mx b (qb_ K (pickM K)).f3.f0, mx c (qb_ K (pickM K)).f3.f1, mx d (qb_ K (pickM K)).f3.f2⟩, K.set (pickM K).toNat (serveK a (qb_ K (pickM K)) p q r more)⟩, 0))
  else (zF, 1)
def serveT (x : S34 × Int) : Int × Int × Int × Int × List S75 × Int := (x.1.f0, x.1.f1.f0, x.1.f1.f1, x.1.f1.f2, x.1.f2, x.2)
theorem serveF_len (a b c d : Int) (K : List S75) (p q r : Int) (more : Bool) : (serveF a b c d K p q r more).1.f2.length ≤ K.length := by
  unfold serveF zF; repeat (first | split | simp)
theorem rd_set_at {L : List S75} {j : Nat} (h : j < L.length) (x : S75) : qb_ (L.set j x) (j : Int) = x := by
  rw [q6_ _ j (by simpa using h), List.getElem_set_self]
theorem sServe_ev (a b c d : Int) (K : List S75) (hl : K.length ≤ 1048576) (p q r : Int) (more : Bool) : Ev (fun k => spec_FairServe.f k a b c d K p q r more) (serveT (serveF a b c d K p q r more)) := by
  have hj : Ev (fun k => spec_FairServe.j0 k more true a b c d K p q r) (0, 0, 0, 0, [], 1) := Ev.next (f := fun _ => some (0, 0, 0, 0, [], 1)) (Ev.now _) fun k => by simp only [spec_FairServe.j0, if_true]
  unfold spec_FairServe.f serveF
  refine Ev.bind (sFair_ev a b c d K hl) ?_
  cases hF : fairM a b c d K with
  | false => simpa [serveT, zF] using hj
  | true =>
    simp only [sCharge_eq, Option.bind_some, if_true]
    cases vFrom p q r 1 2000 with
    | false => simpa [serveT, zF] using hj
    | true =>
      simp only [Bool.and_self, if_true, Bool.not_true]
      refine Ev.unf ?_
      simp only [spec_FairServe.j0, if_neg (show ¬ (false = true) by decide)]
      refine Ev.bind (sFairPick_ev a b c d K hl) ?_
      have hp : fairPickM a b c d K = if pickM K < 0 then -1 else (qb_ K (pickM K)).f0 := by unfold fairPickM; rw [if_pos hF]
      rw [hp]
      by_cases h : pickM K < 0
      · simp only [if_pos h]
        refine Ev.bind (sAtK_ev (-1) a b c d K hl) ?_
        rw [atK_none hF]; exact Ev.now' fun k => by simp [serveT, zF]
      · simp only [if_neg h]
        have hb := pickM_bd K
        obtain ⟨j, hje⟩ : ∃ j : Nat, pickM K = j := ⟨(pickM K).toNat, by omega⟩
        have hjl : j < K.length := by omega
        rw [hje]
        simp only [q6_ K j hjl]
        refine Ev.bind (sAtK_ev _ a b c d K hl) ?_
        rw [atK_pick hF hjl]
        simp only [if_neg (show ¬ ((j : Int) < 0) by omega), if_pos (show (0 : Int) ≤ (j : Int) by omega), if_pos (show (j : Int) < (K.length : Int) by omega), q6_ K j hjl, spec_l18Copy.f, spec_VecMost.f, spec_VecTop.f, Option.bind_some]
        rw [if_pos (by simp <;> omega)]
        simp only [Option.bind_some, List.nil_append, q6_ K j hjl]
        by_cases ht : mx (mx (mx b K[j].f3.f0) (mx c K[j].f3.f1)) (mx d K[j].f3.f2) > 100000000000
        · simp only [if_pos ht]; exact Ev.now' fun k => by simp [serveT, zF]
        · simp only [if_neg ht]
          refine Ev.bind (sFinish_ev _ _ _ _ _ _ _) (Ev.bind (sDove_ev _ _ _ _) ?_)
          simp only [if_pos (show (j : Int) < (K.length : Int) by omega), Int.toNat_natCast, rd_set_at hjl, List.set_set]
          exact Ev.now' fun k => by simp [serveT, serveK]
theorem iServe_ev (a b c d : Int) (K : List S75) (hl : K.length ≤ 1048576) (p q r : Int) (more : Bool) : Ev (fun k => impl_FairServe.f k a b c d K p q r more) (serveT (serveF a b c d K p q r more)) := by
  have hj : Ev (fun k => impl_FairServe.j0 k more true a b c d K p q r) (0, 0, 0, 0, [], 1) := Ev.next (f := fun _ => some (0, 0, 0, 0, [], 1)) (Ev.now _) fun k => by simp only [impl_FairServe.j0, if_true]
  unfold impl_FairServe.f serveF
  refine Ev.bind (iFair_ev a b c d K hl) ?_
  cases hF : fairM a b c d K with
  | false => simpa [serveT, zF] using hj
  | true =>
    simp only [iCharge_eq, Option.bind_some, if_true]
    cases vFrom p q r 1 2000 with
    | false => simpa [serveT, zF] using hj
    | true =>
      simp only [Bool.and_self, if_true, Bool.not_true]
      refine Ev.unf ?_
      simp only [impl_FairServe.j0, if_neg (show ¬ (false = true) by decide)]
      refine Ev.bind (iPick_ev a b c d K hl) ?_
      by_cases h : pickM K < 0
      · simp only [if_pos h]; exact Ev.now' fun k => by simp [serveT, zF]
      · simp only [if_neg h]
        have hb := pickM_bd K
        obtain ⟨j, hje⟩ : ∃ j : Nat, pickM K = j := ⟨(pickM K).toNat, by omega⟩
        have hjl : j < K.length := by omega
        rw [hje]
        simp only [impl_copyFair.f, slices_Clone_impl_Kid_impl_Kid.f, Option.bind_some, if_pos (show (0 : Int) ≤ (j : Int) by omega)]
        rw [if_pos (by simp <;> omega)]
        simp only [Option.bind_some, List.nil_append, if_pos (show (j : Int) < (K.length : Int) by omega), q6_ K j hjl, impl_VecMost.f, impl_both.f, impl_VecMost_1.f, impl_VecTop.f]
        by_cases ht : mx (mx (mx b K[j].f3.f0) (mx c K[j].f3.f1)) (mx d K[j].f3.f2) > 100000000000
        · simp only [if_pos ht]; exact Ev.now' fun k => by simp [serveT, zF]
        · simp only [if_neg ht]
          refine Ev.bind (iFinish_ev _ _ _ _ _ _ _) ?_
          simp only [iDove_eq, Option.bind_some, Int.toNat_natCast, rd_set_at hjl, List.set_set]
          exact Ev.now' fun k => by simp [serveT, serveK]

theorem branchesFrom_at {a : Int} {K : List S75} {B : List S54} : ∀ m n, n + m = B.length → qah_ a K B m n = true → ∀ i, n ≤ i → i < B.length → branchAt a K B i = true := by
  intro m
  induction m with
  | zero => intro n hn _ i h1 h2; omega
  | succ m ih =>
    intro n hn h i h1 h2
    rw [qah_, Bool.and_eq_true] at h
    by_cases e : i = n
    · subst e; exact h.1
    · exact ih (n + 1) (by omega) h.2 i (by omega) h2

theorem tree_at {a b c d : Int} {K : List S75} {B : List S54} (h : treeM a b c d K B = true) : fairM a b c d K = true ∧ ∃ e : B.length = K.length, ∀ i (hi : i < B.length), B[i].f0 = (K[i]'(by omega)).f0 := by
  unfold treeM at h
  simp only [Bool.and_eq_true, decide_eq_true_eq] at h
  refine ⟨h.1, h.2.1, fun i hi => ?_⟩
  have := branchesFrom_at B.length 0 (by omega) h.2.2 i (by omega) hi
  unfold branchAt at this
  rw [qay_ z54 hi, qay_ z75 (by omega : i < K.length)] at this
  simp only [Bool.and_eq_true, decide_eq_true_eq] at this
  exact this.1


def atB (id : Int) (B : List S54) : Int := idI id (B.map (fun x => x.f0)) 0
theorem atB_cases (id : Int) (B : List S54) : atB id B = -1 ∨ ∃ j : Nat, j < B.length ∧ atB id B = (j : Int) := by
  rcases idI_cases id (B.map (fun x => x.f0)) 0 with e | ⟨j, _, h, e⟩
  · exact .inl e
  · exact .inr ⟨j, by simpa using h, e⟩
theorem sAtB_loop (id a b c d : Int) (K : List S75) (B : List S54) (hl : B.length ≤ 1048576) : ∀ n, n ≤ B.length → Ev (fun k => spec_l20At.l0 k id (n : Int) a b c d K B) (idI id ((B.drop n).map (fun x => x.f0)) n) := by
  refine down ?_ ?_
  · refine Ev.to (Ev.next (f := fun _ => some (-1)) (Ev.now _) fun k => ?_) (by simp [idI])
    simp only [spec_l20At.l0]; rw [if_neg (by omega)]
  · intro n hn ih
    rw [List.drop_eq_getElem_cons hn, List.map_cons]
    by_cases h : B[n].f0 = id
    · refine Ev.to (Ev.next (f := fun _ => some (n : Int)) (Ev.now _) fun k => ?_) (by simp [idI, h])
      simp only [spec_l20At.l0]; rw [if_pos (by omega), if_pos (by omega), qar_ B n hn, if_pos h]
    · refine Ev.to (Ev.next ih fun k => ?_) (by simp [idI, h])
      simp only [spec_l20At.l0]; rw [if_pos (by omega), if_pos (by omega), qar_ B n hn, if_neg h, q5_ (by omega)]
theorem sAtB_ev (id a b c d : Int) (K : List S75) (B : List S54) (hl : B.length ≤ 1048576) : Ev (fun k => spec_l20At.f k a b c d K B id) (atB id B) := by
  have h := sAtB_loop id a b c d K B hl 0 (by omega)
  simpa [spec_l20At.f, atB] using h
theorem at_same {a b c d : Int} {K : List S75} {B : List S54} {t : Int} (h : treeM a b c d K B = true) : atB t B = atK t K := by
  obtain ⟨_, e, hh⟩ := tree_at h
  unfold atB atK
  congr 1
  refine List.ext_getElem (by simp [e]) fun i h1 h2 => ?_
  simp only [List.getElem_map]
  exact hh i (by simpa using h1)

theorem sWith_loop (a b c d a' b' c' d' : Int) (K K' : List S75) (B : List S54) (hl : B.length ≤ 1048576) (hx : ∀ x ∈ B, x.f1.f2.length ≤ 1048576) (F : S34) (hF : F.f2.length ≤ 1048576) (i : Nat) (hi : i < B.length) : ∀ n, n ≤ B.length → ∀ acc : List S54, acc.length ≤ n → Ev (fun k => spec_l20With.l0 k (i : Int) (n : Int) a b c d K B F.f0 F.f1.f0 F.f1.f1 F.f1.f2 F.f2 a' b' c' d' K' acc) (a', b', c', d', K', acc ++ (B.set i ⟨B[i].f0, F⟩).drop n) := by
  refine down ?_ ?_
  · intro acc ha
    refine Ev.to (Ev.next (f := fun _ => some (a', b', c', d', K', acc)) (Ev.now _) fun k => ?_) (by simp)
    simp only [spec_l20With.l0]; rw [if_neg (by omega)]
  · intro n hn ih acc ha
    have hb := hx _ (List.getElem_mem hn)
    have hn2 : n < (B.set i ⟨B[i].f0, F⟩).length := by simpa using hn
    by_cases e : n = i
    · subst e
      refine Ev.to (Ev.next (ih (acc ++ [⟨B[n].f0, F⟩]) (by simp; omega)) fun k => ?_) (by rw [List.drop_eq_getElem_cons hn2]; simp)
      simp only [spec_l20With.l0]
      rw [if_pos (by omega), if_pos (by omega), qar_ B n hn]
      simp only [spec_l18Copy.f, Option.bind_some]
      rw [if_pos (by simp <;> omega)]
      simp only [Option.bind_some, if_true, if_pos (show acc.length < 2199023255552 by omega), q5_ (show n < 4611686018427387904 by omega)]
      rw [if_pos (by simp <;> omega)]
      simp only [Option.bind_some, List.nil_append]
    · refine Ev.to (Ev.next (ih (acc ++ [B[n]]) (by simp; omega)) fun k => ?_) (by rw [List.drop_eq_getElem_cons hn2, List.getElem_set_ne (Ne.symm e)]; simp)
      simp only [spec_l20With.l0]
      rw [if_pos (by omega), if_pos (by omega), qar_ B n hn]
      simp only [spec_l18Copy.f, Option.bind_some]
      rw [if_pos (by simp <;> omega)]
      simp only [Option.bind_some, if_neg (show ¬ ((n : Int) = (i : Int)) by omega), if_pos (show acc.length < 2199023255552 by omega), q5_ (show n < 4611686018427387904 by omega), List.nil_append]
theorem sWith_ev (a b c d : Int) (K : List S75) (B : List S54) (hl : B.length ≤ 1048576) (hx : ∀ x ∈ B, x.f1.f2.length ≤ 1048576) (T F : S34) (hT : T.f2.length ≤ 1048576) (hF : F.f2.length ≤ 1048576) (i : Nat) (hi : i < B.length) : Ev (fun k => spec_l20With.f k a b c d K B T.f0 T.f1.f0 T.f1.f1 T.f1.f2 T.f2 (i : Int) F.f0 F.f1.f0 F.f1.f1 F.f1.f2 F.f2) (T.f0, T.f1.f0, T.f1.f1, T.f1.f2, T.f2, B.set i ⟨B[i].f0, F⟩) := by
  refine Ev.to (Ev.congr (fun k => ?_) (sWith_loop a b c d T.f0 T.f1.f0 T.f1.f1 T.f1.f2 K T.f2 B hl hx F hF i hi 0 (by omega) [] (by simp))) (by simp)
  unfold spec_l20With.f
  simp only [spec_l18Copy.f, Option.bind_some]
  rw [if_pos (by simp <;> omega)]
  simp

theorem sAt_loop (a b c d : Int) (K : List S75) (B : List S54) (hl : B.length ≤ 1048576) (id : Int) (p : Nat) (hp : p < B.length) (hid : B[p].f0 = id) (hne : ∀ j (hj : j < p), (B[j]'(by omega)).f0 ≠ id) : ∀ n, n ≤ p → Ev (fun k => spec_l20At.l0 k id (n : Int) a b c d K B) (p : Int) := by
  refine down ?_ ?_
  · refine Ev.next (f := fun _ => some _) (Ev.now _) fun k => ?_
    simp only [spec_l20At.l0]; rw [if_pos (by omega), if_pos (by omega), qar_ B p hp, if_pos hid]
  · intro n hn ih
    refine Ev.next ih fun k => ?_
    simp only [spec_l20At.l0]; rw [if_pos (by omega), if_pos (by omega), qar_ B n (by omega), if_neg (hne n hn), q5_ (by omega)]

def treePickM (a b c d : Int) (K : List S75) (B : List S54) : Int × Int :=
  if treeM a b c d K B = true then (if pickM K < 0 then (-1, -1) else ((qb_ K (pickM K)).f0, fairPickM (qc_ B (pickM K)).f1.f0 (qc_ B (pickM K)).f1.f1.f0 (qc_ B (pickM K)).f1.f1.f1 (qc_ B (pickM K)).f1.f1.f2 (qc_ B (pickM K)).f1.f2)) else (-1, -1)

theorem sTreePick_ev (a b c d : Int) (K : List S75) (B : List S54) (hk : K.length ≤ 1048576) (hl : B.length ≤ 1048576) (hx : ∀ x ∈ B, x.f1.f2.length ≤ 1048576) : Ev (fun k => spec_TreePick.f k a b c d K B) (treePickM a b c d K B) := by
  have hj : Ev (fun k => spec_TreePick.j0 k true a b c d K B) (-1, -1) := Ev.next (f := fun _ => some (-1, -1)) (Ev.now _) fun k => by simp [spec_TreePick.j0]
  unfold spec_TreePick.f treePickM
  refine Ev.bind (sTree_ev a b c d K B hk hl hx) ?_
  cases ht : treeM a b c d K B with
  | false => simpa using hj
  | true =>
    obtain ⟨hf, hlen, hids⟩ := tree_at ht
    simp only [if_true]
    have hp : fairPickM a b c d K = if pickM K < 0 then -1 else (qb_ K (pickM K)).f0 := by unfold fairPickM; rw [if_pos hf]
    refine Ev.bind (sFairPick_ev a b c d K hk) ?_
    by_cases h : pickM K < 0
    · rw [hp]; simp only [if_pos h]; simpa using hj
    · have hb := pickM_bd K
      obtain ⟨p, hpe⟩ : ∃ p : Nat, pickM K = p := ⟨(pickM K).toNat, by omega⟩
      have hpl : p < K.length := by omega
      have hpb : p < B.length := by omega
      have hfa := fair_at hf hpl
      rw [hpe] at hp h
      rw [if_neg h, q6_ K p hpl] at hp
      rw [hp, hpe]
      simp only [decide_eq_false (show ¬ K[p].f0 < 0 by omega), if_neg h, q6_ K p hpl, qar_ B p hpb]
      refine Ev.next (f := fun k => (spec_FairPick.f k a b c d K).bind fun t165 => ((spec_l20At.f k a b c d K B t165).bind fun t166 => (if 0 ≤ t166 then (if t166 < (B.length : Int) then ((spec_FairPick.f k ((qc_ B t166).f1.f0) ((qc_ B t166).f1.f1.f0) ((qc_ B t166).f1.f1.f1) ((qc_ B t166).f1.f1.f2) ((qc_ B t166).f1.f2)).bind fun t168 => (some (t165, t168))) else (none)) else (none)))) ?_ fun k => by simp [spec_TreePick.j0]
      refine Ev.bind (sFairPick_ev a b c d K hk) ?_
      rw [hp]
      have hat : Ev (fun k => spec_l20At.f k a b c d K B K[p].f0) (p : Int) := by
        unfold spec_l20At.f
        exact sAt_loop a b c d K B hl K[p].f0 p hpb (hids p hpb) (fun j hj => by rw [hids j (by omega)]; have := hfa.2 j hj; omega) 0 (by omega)
      refine Ev.bind hat ?_
      simp only [if_pos (show (0 : Int) ≤ (p : Int) by omega), if_pos (show (p : Int) < (B.length : Int) by omega), qar_ B p hpb]
      exact Ev.bind (sFairPick_ev _ _ _ _ _ (hx _ (List.getElem_mem hpb))) (f := fun _ t168 => some (K[p].f0, t168)) (Ev.now _)


def serveB (x : S54) (p q r : Int) (more : Bool) : S34 × Int := serveF x.f1.f0 x.f1.f1.f0 x.f1.f1.f1 x.f1.f1.f2 x.f1.f2 p q r more
def anyB (K : List S75) : Bool := K.any (fun x => x.f2)
def qa0_ (a b c d : Int) (K : List S75) (B : List S54) (p q r : Int) (more : Bool) : (S34 × List S54) × Int :=
  if (treeM a b c d K B && vFrom p q r 1 2000) = true then
    (if pickM K < 0 then ((zF, []), 4) else
      if (serveB (qc_ B (pickM K)) p q r more).2 = 0 then
        (if (serveF a b c d K p q r (anyB (serveB (qc_ B (pickM K)) p q r more).1.f2)).2 = 0 then
          (((serveF a b c d K p q r (anyB (serveB (qc_ B (pickM K)) p q r more).1.f2)).1, B.set (pickM K).toNat ⟨(qc_ B (pickM K)).f0, (serveB (qc_ B (pickM K)) p q r more).1⟩), 0)
        else ((zF, []), (serveF a b c d K p q r (anyB (serveB (qc_ B (pickM K)) p q r more).1.f2)).2))
      else ((zF, []), (serveB (qc_ B (pickM K)) p q r more).2))
  else ((zF, []), 1)
def treeT (x : (S34 × List S54) × Int) : Int × Int × Int × Int × List S75 × List S54 × Int := (x.1.1.f0, x.1.1.f1.f0, x.1.1.f1.f1, x.1.1.f1.f2, x.1.1.f2, x.1.2, x.2)
theorem sTreeServe_ev (a b c d : Int) (K : List S75) (B : List S54) (hk : K.length ≤ 1048576) (hl : B.length ≤ 1048576) (hx : ∀ x ∈ B, x.f1.f2.length ≤ 1048576) (p q r : Int) (more : Bool) : Ev (fun k => spec_TreeServe.f k a b c d K B p q r more) (treeT (qa0_ a b c d K B p q r more)) := by
  have hj : Ev (fun k => spec_TreeServe.j0 k more true a b c d K B p q r) (0, 0, 0, 0, [], [], 1) := Ev.next (f := fun _ => some (0, 0, 0, 0, [], [], 1)) (Ev.now _) fun k => by simp only [spec_TreeServe.j0, if_true]
  unfold spec_TreeServe.f qa0_
  refine Ev.bind (sTree_ev a b c d K B hk hl hx) ?_
  cases hM : treeM a b c d K B with
  | false => simpa [treeT, zF] using hj
  | true =>
    simp only [sCharge_eq, Option.bind_some, if_true]
    cases vFrom p q r 1 2000 with
    | false => simpa [treeT, zF] using hj
    | true =>
      simp only [Bool.and_self, if_true, Bool.not_true]
      refine Ev.unf ?_
      simp only [spec_TreeServe.j0, if_neg (show ¬ (false = true) by decide)]
      refine Ev.bind (sTreePick_ev a b c d K B hk hl hx) ?_
      unfold treePickM
      simp only [hM, if_true]
      by_cases h : pickM K < 0
      · simp only [if_pos h]; exact Ev.now' fun k => by simp [treeT, zF]
      · simp only [if_neg h]
        have hb := pickM_bd K
        obtain ⟨hf, hlen, hids⟩ := tree_at hM
        obtain ⟨j, hje⟩ : ∃ j : Nat, pickM K = j := ⟨(pickM K).toNat, by omega⟩
        have hjl : j < K.length := by omega
        have hjb : j < B.length := by omega
        have hfa := (fair_at hf hjl).1
        rw [hje]
        simp only [q6_ K j hjl, qar_ B j hjb, if_neg (show ¬ (K[j].f0 < 0) by omega)]
        refine Ev.bind (sAtB_ev K[j].f0 a b c d K B hl) ?_
        rw [at_same hM, atK_pick hf hjl]
        simp only [if_pos (show (0 : Int) ≤ (j : Int) by omega), if_pos (show (j : Int) < (B.length : Int) by omega), qar_ B j hjb]
        have hbl := hx _ (List.getElem_mem hjb)
        refine Ev.bind (sServe_ev _ _ _ _ _ hbl p q r more) ?_
        have hF : (serveB B[j] p q r more).1.f2.length ≤ 1048576 := Nat.le_trans (serveF_len _ _ _ _ _ _ _ _ _) hbl
        simp only [serveT, show serveF B[j].f1.f0 B[j].f1.f1.f0 B[j].f1.f1.f1 B[j].f1.f1.f2 B[j].f1.f2 p q r more = serveB B[j] p q r more from rfl]
        generalize serveB B[j] p q r more = R at hF ⊢
        by_cases h0 : R.2 = 0
        · simp only [if_pos h0]
          refine Ev.bind (sBusyIds_ev _ _ _ _ R.1.f2 hF) ?_
          rw [busy_ids]
          change Ev (fun k => (spec_FairServe.f k a b c d K p q r (anyB R.1.f2)).bind _) _
          refine Ev.bind (sServe_ev a b c d K hk p q r (anyB R.1.f2)) ?_
          have hT : (serveF a b c d K p q r (anyB R.1.f2)).1.f2.length ≤ 1048576 := Nat.le_trans (serveF_len _ _ _ _ _ _ _ _ _) hk
          simp only [serveT]
          generalize serveF a b c d K p q r (anyB R.1.f2) = T at hT ⊢
          by_cases h1 : T.2 = 0
          · simp only [h1, reduceIte]
            exact Ev.bind (sWith_ev a b c d K B hl hx T.1 R.1 hT hF j hjb) (Ev.now' fun k => by simp [treeT])
          · simp only [h1, reduceIte]; exact Ev.now' fun k => by simp [treeT, zF]
        · simp only [if_neg h0]; exact Ev.now' fun k => by simp [treeT, zF]
theorem iTreeServe_ev (a b c d : Int) (K : List S75) (B : List S54) (hk : K.length ≤ 1048576) (hl : B.length ≤ 1048576) (hx : ∀ x ∈ B, x.f1.f2.length ≤ 1048576) (p q r : Int) (more : Bool) : Ev (fun k => impl_TreeServe.f k a b c d K B p q r more) (treeT (qa0_ a b c d K B p q r more)) := by
  have hj : Ev (fun k => impl_TreeServe.j0 k true a b c d K B p q r more) (0, 0, 0, 0, [], [], 1) := Ev.next (f := fun _ => some (0, 0, 0, 0, [], [], 1)) (Ev.now _) fun k => by simp only [impl_TreeServe.j0, if_true]
  unfold impl_TreeServe.f qa0_
  refine Ev.bind (iTree_ev a b c d K B hk hl hx) ?_
  cases hM : treeM a b c d K B with
  | false => simpa [treeT, zF] using hj
  | true =>
    simp only [iCharge_eq, Option.bind_some, if_true]
    cases vFrom p q r 1 2000 with
    | false => simpa [treeT, zF] using hj
    | true =>
      simp only [Bool.and_self, if_true, Bool.not_true]
      refine Ev.unf ?_
      simp only [impl_TreeServe.j0, if_neg (show ¬ (false = true) by decide)]
      refine Ev.bind (iBusyAny_ev a b c d K hk) ?_
      have hpb := pickM_busy K
      by_cases h : pickM K < 0
      · have hb : K.any (fun x => x.f2) = false := by
          cases hc : K.any (fun x => x.f2) with
          | false => rfl
          | true => exact absurd (hpb.2 hc) (by omega)
        rw [hb]
        simp only [if_pos h, if_neg (show ¬ (false = true) by decide)]; exact Ev.now' fun k => by simp [treeT, zF]
      · have hb := pickM_bd K
        rw [hpb.1 (by omega)]
        simp only [if_neg h, if_true]
        refine Ev.bind (iPick_ev a b c d K hk) ?_
        obtain ⟨hf, hlen, hids⟩ := tree_at hM
        obtain ⟨j, hje⟩ : ∃ j : Nat, pickM K = j := ⟨(pickM K).toNat, by omega⟩
        have hjl : j < K.length := by omega
        have hjb : j < B.length := by omega
        rw [hje]
        simp only [if_pos (show (0 : Int) ≤ (j : Int) by omega), if_pos (show (j : Int) < (B.length : Int) by omega), qar_ B j hjb]
        have hbl := hx _ (List.getElem_mem hjb)
        have hF : (serveB B[j] p q r more).1.f2.length ≤ 1048576 := Nat.le_trans (serveF_len _ _ _ _ _ _ _ _ _) hbl
        have hc : Ev (fun k => impl_Tree_change.f k a b c d K B B[j].f0 (fun z0_ z1_ z2_ z3_ z4_ => impl_TreeServe_1.f k z0_ z1_ z2_ z3_ z4_ p q r more)) (if (serveB B[j] p q r more).2 = 0 then (a, b, c, d, K, B.set j ⟨B[j].f0, (serveB B[j] p q r more).1⟩, (j : Int), 0) else (0, 0, 0, 0, [], [], 0, (serveB B[j] p q r more).2)) := by
          unfold impl_Tree_change.f
          refine Ev.bind (iTree_ev a b c d K B hk hl hx) ?_
          rw [hM]
          simp only [if_true]
          refine Ev.bind (iAtK_ev B[j].f0 a b c d K hk) ?_
          rw [hids j hjb, atK_pick hf hjl]
          simp only [if_neg (show ¬ ((j : Int) < 0) by omega), if_pos (show (0 : Int) ≤ (j : Int) by omega), if_pos (show (j : Int) < (B.length : Int) by omega), qar_ B j hjb, impl_TreeServe_1.f]
          refine Ev.bind (Ev.bind (iServe_ev _ _ _ _ _ hbl p q r more) (Ev.now _)) ?_
          simp only [serveT, show serveF B[j].f1.f0 B[j].f1.f1.f0 B[j].f1.f1.f1 B[j].f1.f1.f2 B[j].f1.f2 p q r more = serveB B[j] p q r more from rfl]
          by_cases h0 : (serveB B[j] p q r more).2 = 0
          · simp only [if_pos h0]
            refine Ev.bind (iCopyTree_ev a b c d K B hk hl hx) ?_
            simp only [if_pos (show (j : Int) < (B.length : Int) by omega), qar_ B j hjb]
            exact Ev.now' fun k => by simp [hids j hjb]
          · simp only [if_neg h0]; exact Ev.now _
        refine Ev.bind hc ?_
        generalize serveB B[j] p q r more = R at hF ⊢
        by_cases h0 : R.2 = 0
        · simp only [if_pos h0, if_true, List.length_set, if_pos (show (0 : Int) ≤ (j : Int) by omega), if_pos (show (j : Int) < (B.length : Int) by omega), qar_ (B.set j ⟨B[j].f0, R.1⟩) j (by simpa using hjb), List.getElem_set_self]
          refine Ev.bind (iBusyAny_ev _ _ _ _ R.1.f2 hF) ?_
          change Ev (fun k => (impl_FairServe.f k a b c d K p q r (anyB R.1.f2)).bind _) _
          refine Ev.bind (iServe_ev a b c d K hk p q r (anyB R.1.f2)) ?_
          simp only [serveT]
          generalize serveF a b c d K p q r (anyB R.1.f2) = T
          by_cases h1 : T.2 = 0
          · simp only [h1, reduceIte]; exact Ev.now' fun k => by simp [treeT]
          · simp only [h1, reduceIte]; exact Ev.now' fun k => by simp [treeT, zF]
        · simp only [if_neg h0]; exact Ev.now' fun k => by simp [treeT, zF]
theorem treeServe_len (a b c d : Int) (K : List S75) (B : List S54) (hk : K.length ≤ 1048576) (hl : B.length ≤ 1048576) (hx : ∀ x ∈ B, x.f1.f2.length ≤ 1048576) (p q r : Int) (more : Bool) : (qa0_ a b c d K B p q r more).1.1.f2.length ≤ 1048576 ∧ (qa0_ a b c d K B p q r more).1.2.length ≤ 1048576 ∧ ∀ x ∈ (qa0_ a b c d K B p q r more).1.2, x.f1.f2.length ≤ 1048576 := by
  unfold qa0_
  by_cases hM : (treeM a b c d K B && vFrom p q r 1 2000) = true
  · rw [if_pos hM]
    split
    · simp [zF]
    · rename_i h
      have hb := pickM_bd K
      obtain ⟨hf, hlen, hids⟩ := tree_at (Bool.and_eq_true _ _ ▸ hM : treeM a b c d K B = true ∧ _).1
      obtain ⟨j, hje⟩ : ∃ j : Nat, pickM K = j := ⟨(pickM K).toNat, by omega⟩
      have hjb : j < B.length := by omega
      rw [hje, qar_ B j hjb]
      split
      · split
        · refine ⟨Nat.le_trans (serveF_len _ _ _ _ _ _ _ _ _) hk, by simpa using hl, fun x hx2 => ?_⟩
          rcases List.mem_or_eq_of_mem_set hx2 with h4 | h4
          · exact hx x h4
          · rw [h4]; exact Nat.le_trans (serveF_len _ _ _ _ _ _ _ _ _) (hx _ (List.getElem_mem hjb))
        · simp [zF]
      · simp [zF]
  · rw [if_neg hM]; simp [zF]
theorem FnExactTreeServe : laws_FnExactTreeServe.Pure := by
  intro y0 y1 y2 hy0 _
  refine Ev.rounds ?_
  obtain ⟨s, hs, hd⟩ := szTree_ev y0 hy0
  unfold laws_FnExactTreeServe.f
  refine Ev.bind hs ?_
  rcases hd with hd | hd
  · exact Ev.now' fun k => if_pos hd
  · by_cases hn : s < 0
    · exact Ev.now' fun k => if_pos hn
    · simp only [if_neg hn, laws_toVec.f, Option.bind_some]
      have hT := toTree_ev y0 hd
      have h1 : (y0.f0.f2.map toK).length ≤ 1048576 := by simpa using hd.1
      have h2 : (y0.f1.map toB).length ≤ 1048576 := by simpa using hd.2.1
      have h3 := toB_len hd.2.2
      have hI := iTreeServe_ev y0.f0.f0 y0.f0.f1.f0 y0.f0.f1.f1 y0.f0.f1.f2 _ _ h1 h2 h3 y1.f0 y1.f1 y1.f2 y2
      refine Ev.bind hT (Ev.bind (sTreeServe_ev _ _ _ _ _ _ h1 h2 h3 y1.f0 y1.f1 y1.f2 y2) (Ev.bind hT (Ev.bind hI ?_)))
      have g := treeServe_len y0.f0.f0 y0.f0.f1.f0 y0.f0.f1.f1 y0.f0.f1.f2 _ _ h1 h2 h3 y1.f0 y1.f1 y1.f2 y2
      generalize qa0_ y0.f0.f0 y0.f0.f1.f0 y0.f0.f1.f1 y0.f0.f1.f2 (y0.f0.f2.map toK) (y0.f1.map toB) y1.f0 y1.f1 y1.f2 y2 = R at hI g
      have hE := eqTree_ev R.1.1.f0 R.1.1.f1.f0 R.1.1.f1.f1 R.1.1.f1.f2 R.1.1.f2 R.1.2 g.1 g.2.1 g.2.2
      have hM := markTree_ev R.1.1.f0 R.1.1.f1.f0 R.1.1.f1.f1 R.1.1.f1.f2 R.1.1.f2 R.1.2 g.1 g.2.1 g.2.2
      have hH := heldTree_ev R.1.1.f0 R.1.1.f1.f0 R.1.1.f1.f1 R.1.1.f1.f2 R.1.1.f2 R.1.2 g.1 g.2.1 g.2.2
      simp only [treeT] at hI ⊢
      refine Ev.bind hE ?_
      simp only [if_true, bne_self_eq_false]
      refine Ev.unf ?_
      simp only [laws_FnExactTreeServe.j0, if_neg (show ¬ (false = true) by decide)]
      refine Ev.bind hT (Ev.bind (eqTree_ev _ _ _ _ _ _ h1 h2 h3) ?_)
      simp only [if_true]
      refine Ev.bind (markTree_ev _ _ _ _ _ _ h1 h2 h3) ?_
      simp only [if_neg (endT_pos _ _)]
      refine Ev.bind hE ?_
      simp only [if_true, bne_self_eq_false]
      refine Ev.unf ?_
      simp only [laws_FnExactTreeServe.j1, if_neg (show ¬ (false = true) by decide), laws_toVec.f, Option.bind_some]
      refine Ev.bind hM (Ev.bind hH ?_)
      simp only [if_neg (endT_pos R.1.1.f2 R.1.2), if_true]
      refine Ev.bind hT (Ev.bind hI (Ev.bind hE ?_))
      simp only [if_true, bne_self_eq_false]
      refine Ev.unf ?_
      simp only [laws_FnExactTreeServe.j2, if_neg (show ¬ (false = true) by decide)]
      refine Ev.bind hH ?_
      simp only [if_neg (endT_pos R.1.1.f2 R.1.2), if_true]
      exact Ev.now _

end Go.Proofs.Ytjhgkonacdimfac.Pure
