/- The program's TreePick returns what the reference's TreePick returns, for every tree (trees of which the law's own count speaks: any other answers true at once). No condition. -/
import Derived.Test.YtaifcchkflcbhaaPFnExactTreePickx12
namespace Go.Proofs.Ytaifcchkflcbhaa.Pure
open Go.RowKit Go.Proofs.Ytaifcchkflcbhaa.PFnExactTreePick Go.Proofs.YtaifcchkflcbhaaW.PrintWords Go.Proofs.YtaifcchkflcbhaaW.PrintLast Go.Proofs.YtaifcchkflcbhaaW.PrintMore Go.Proofs.YtaifcchkflcbhaaV
set_option linter.unusedVariables false
set_option linter.unusedSimpArgs false

theorem down {N : Nat} {P : Nat → Prop} (h0 : P N) (hs : ∀ n, n < N → P (n + 1) → P n) : ∀ n, n ≤ N → P n := by
  intro n hn
  obtain ⟨d, rfl⟩ : ∃ d, N = n + d := ⟨N - n, by omega⟩
  clear hn
  induction d generalizing n with
  | zero => exact h0
  | succ d ih => exact hs n (by omega) (ih (n + 1) (by rw [show n + 1 + d = n + (d + 1) by omega]; exact h0) (fun m hm hp => hs m (by omega) hp))

theorem wrap_id {x : Int} (h1 : -9223372036854775808 ≤ x) (h2 : x ≤ 9223372036854775807) : wrap64 x = x := by
  unfold wrap64; omega

theorem wrap_succ {n : Nat} (h : n < 4611686018427387904) : wrap64 ((n : Int) + 1) = ((n + 1 : Nat) : Int) := by
  rw [wrap_id (by omega) (by omega)]; omega

theorem wrap_pred {n : Nat} (h0 : 0 < n) (h : n < 4611686018427387904) : wrap64 ((n : Int) - 1) = ((n - 1 : Nat) : Int) := by
  rw [wrap_id (by omega) (by omega)]; omega

theorem getD_lt {α : Type} {l : List α} {n : Nat} (d : α) (h : n < l.length) : l.getD n d = l[n] := by
  rw [List.getD_eq_getElem?_getD, List.getElem?_eq_getElem h]; rfl

theorem rd_nat (l : List Int) (n : Nat) : rd l (n : Int) = l.getD n 0 := by
  unfold rd; simp

theorem Ev.now' {α : Type} {g : Nat → Option α} {r : α} (h : ∀ k, g k = some r) : Ev g r := ⟨0, fun k _ => h k⟩

/-- One round, and what follows. -/
theorem Ev.next {α : Type} {g f : Nat → Option α} {r : α} (k : Ev f r) (h : ∀ k, g (k + 1) = f k) : Ev g r := Ev.step h k

theorem Ev.to {α : Type} {g : Nat → Option α} {r q : α} (h : Ev g r) (e : r = q) : Ev g q := e ▸ h

theorem list_drop_cons {α : Type} {l : List α} {n : Nat} (h : n < l.length) : l.drop n = l[n] :: l.drop (n + 1) := List.drop_eq_getElem_cons h

theorem mem_drop {α : Type} {l : List α} {n : Nat} (h : n < l.length) {x : α} : x ∈ l.drop n ↔ x = l[n] ∨ x ∈ l.drop (n + 1) := by
  rw [List.drop_eq_getElem_cons h, List.mem_cons]

theorem any_drop {α : Type} {l : List α} {n : Nat} (h : n < l.length) (q : α → Bool) : (l.drop n).any q = (q l[n] || (l.drop (n + 1)).any q) := by
  rw [List.drop_eq_getElem_cons h, List.any_cons]

theorem all_drop {α : Type} {l : List α} {n : Nat} (h : n < l.length) (q : α → Bool) : (l.drop n).all q = (q l[n] && (l.drop (n + 1)).all q) := by
  rw [List.drop_eq_getElem_cons h, List.all_cons]

theorem dec_false {p : Prop} [Decidable p] (h : ¬ p) : false = decide p := (decide_eq_false h).symm
theorem dec_true {p : Prop} [Decidable p] (h : p) : true = decide p := (decide_eq_true h).symm
theorem dec_iff {p q : Prop} [Decidable p] [Decidable q] (h : p ↔ q) : decide p = decide q := decide_eq_decide.2 h

theorem rdLK_nat (l : List S322) (n : Nat) (h : n < l.length) : rd_T322 l (n : Int) = l[n] := by
  unfold rd_T322; rw [Int.toNat_natCast, getD_lt _ h]
theorem rdK_nat (l : List S249) (n : Nat) (h : n < l.length) : rd_T249 l (n : Int) = l[n] := by
  unfold rd_T249; rw [Int.toNat_natCast, getD_lt _ h]
theorem rdLB_nat (l : List S275) (n : Nat) (h : n < l.length) : rd_T275 l (n : Int) = l[n] := by
  unfold rd_T275; rw [Int.toNat_natCast, getD_lt _ h]
theorem rdB_nat (l : List S188) (n : Nat) (h : n < l.length) : rd_T188 l (n : Int) = l[n] := by
  unfold rd_T188; rw [Int.toNat_natCast, getD_lt _ h]

/-- The program's own types. -/
def toK (x : S322) : S249 := ⟨x.f0, x.f1, x.f2, ⟨x.f3.f0, x.f3.f1, x.f3.f2⟩⟩
def toF (x : S64) : S73 := ⟨x.f0, ⟨x.f1.f0, x.f1.f1, x.f1.f2⟩, x.f2.map toK⟩
def toB (x : S275) : S188 := ⟨x.f0, toF x.f1⟩

theorem szKids_eq (l : List S322) (a : Int) (hl : l.length ≤ maxLen) (h0 : 0 ≤ a) (h1 : a ≤ 1048576) : laws_szKidS.f l a = some (if a < l.length then -1 else a - l.length) := by
  have hm : maxLen = 9223372036854775807 := rfl
  unfold laws_szKidS.f
  rw [wrap_id (by omega) (by omega)]
  by_cases h : a < l.length
  · rw [if_pos (by omega), if_pos h]
  · rw [if_neg (by omega), if_neg h]

theorem szFair_eq (a0 a1 a2 a3 : Int) (l : List S322) (a : Int) (hl : l.length ≤ maxLen) (h0 : 0 ≤ a) (h1 : a ≤ 1048576) : laws_szFair.f a0 a1 a2 a3 l a = some (if a < l.length then -1 else a - l.length) := by
  unfold laws_szFair.f
  rw [szKids_eq l a hl h0 h1]
  by_cases h : a < l.length
  · rw [if_pos h]; rfl
  · rw [if_neg h]; simp only [Option.bind_some]; rw [if_neg (by omega)]

theorem szBranch_eq (a0 a1 a2 a3 a4 : Int) (l : List S322) (a : Int) (hl : l.length ≤ maxLen) (h0 : 0 ≤ a) (h1 : a ≤ 1048576) : laws_szBranch.f a0 a1 a2 a3 a4 l a = some (if a < l.length then -1 else a - l.length) := by
  unfold laws_szBranch.f
  rw [szFair_eq a1 a2 a3 a4 l a hl h0 h1]
  by_cases h : a < l.length
  · rw [if_pos h]; rfl
  · rw [if_neg h]; simp only [Option.bind_some]; rw [if_neg (by omega)]

theorem szBranches_loop (l : List S275) (hl : l.length ≤ 1048576) (hx : ∀ x ∈ l, x.f1.f2.length ≤ maxLen) : ∀ n, n ≤ l.length → ∀ a : Int, 0 ≤ a → a ≤ 1048576 →
    ∃ s, Ev (fun k => laws_szBranchS.l0 k l a (n : Int)) s ∧ (s < 0 ∨ ∀ x ∈ l.drop n, x.f1.f2.length ≤ 1048576) := by
  refine down ?_ ?_
  · intro a h0 h1
    refine ⟨a, Ev.next (f := fun _ => some a) (Ev.now a) fun k => ?_, .inr (by simp)⟩
    simp only [laws_szBranchS.l0]; rw [if_neg (by omega)]
  · intro n hn ih a h0 h1
    have hxn : l[n].f1.f2.length ≤ maxLen := hx _ (List.getElem_mem hn)
    by_cases h : a < l[n].f1.f2.length
    · refine ⟨-1, Ev.next (f := fun _ => some (-1)) (Ev.now _) fun k => ?_, .inl (by omega)⟩
      simp only [laws_szBranchS.l0]
      rw [if_pos (by omega), if_pos (by omega), rdLB_nat l n hn, szBranch_eq _ _ _ _ _ _ _ hxn h0 h1, if_pos h]
      rfl
    · obtain ⟨s, hs, hd⟩ := ih (a - l[n].f1.f2.length) (by omega) (by omega)
      refine ⟨s, Ev.next hs fun k => ?_, hd.imp id fun hd x hx => ?_⟩
      · simp only [laws_szBranchS.l0]
        rw [if_pos (by omega), if_pos (by omega), rdLB_nat l n hn, szBranch_eq _ _ _ _ _ _ _ hxn h0 h1, if_neg h]
        simp only [Option.bind_some]
        rw [if_neg (by omega), wrap_succ (by omega)]
      · rw [List.drop_eq_getElem_cons hn] at hx
        rcases List.mem_cons.1 hx with rfl | hx
        · omega
        · exact hd x hx

/-- What the law's own count lets in. -/
def TreeSz (k : List S322) (b : List S275) : Prop := k.length ≤ 1048576 ∧ b.length ≤ 1048576 ∧ ∀ x ∈ b, x.f1.f2.length ≤ 1048576

theorem szTree_ev (y : S67) (hy : OK67 y) : ∃ s, Ev (fun k => laws_szTree.f k y.f0.f0 y.f0.f1.f0 y.f0.f1.f1 y.f0.f1.f2 y.f0.f2 y.f1 1048576) s ∧ (s < 0 ∨ TreeSz y.f0.f2 y.f1) := by
  have hm : maxLen = 9223372036854775807 := rfl
  have h1 : y.f0.f2.length ≤ maxLen := hy.1.2.2.1
  have h2 : y.f1.length ≤ maxLen := hy.2.1
  have h3 : ∀ x ∈ y.f1, x.f1.f2.length ≤ maxLen := fun x hx => (hy.2.2 x hx).2.2.2.1
  unfold laws_szTree.f
  simp only [szFair_eq _ _ _ _ _ (1048576 : Int) h1 (by omega) (by omega), Option.bind_some]
  by_cases h : (1048576 : Int) < y.f0.f2.length
  · simp only [if_pos h]
    exact ⟨-1, Ev.now' fun k => rfl, .inl (by omega)⟩
  · simp only [if_neg h, if_neg (show ¬ (1048576 - (y.f0.f2.length : Int)) < 0 by omega)]
    by_cases hb : (1048576 - (y.f0.f2.length : Int)) < y.f1.length
    · refine ⟨-1, Ev.now' fun k => ?_, .inl (by omega)⟩
      unfold laws_szBranchS.f
      rw [wrap_id (by omega) (by omega), if_pos (by omega)]; rfl
    · obtain ⟨s, hs, hd⟩ := szBranches_loop y.f1 (by omega) h3 0 (by omega) (1048576 - (y.f0.f2.length : Int) - (y.f1.length : Int)) (by omega) (by omega)
      have hf : Ev (fun k => laws_szBranchS.f k y.f1 (1048576 - (y.f0.f2.length : Int))) s := by
        refine Ev.congr (fun k => ?_) hs
        unfold laws_szBranchS.f
        rw [wrap_id (by omega) (by omega), if_neg (by omega)]; rfl
      by_cases hs0 : s < 0
      · exact ⟨-1, Ev.bind hf (f := fun _ t => if t < 0 then some (-1) else some t) (Ev.now' fun k => if_pos hs0), .inl (by omega)⟩
      · refine ⟨s, Ev.bind hf (f := fun _ t => if t < 0 then some (-1) else some t) (Ev.now' fun k => if_neg hs0), hd.imp id fun hd => ⟨by omega, by omega, by simpa using hd⟩⟩

theorem take_set_next {α : Type} {l m : List α} {n : Nat} {x : α} (hl : n < l.length) (hm : m.length = n) (h : l.take n = m) : (l.set n x).take (n + 1) = m ++ [x] := by
  rw [List.take_set, List.take_add_one, h, List.getElem?_eq_getElem hl]
  simp only [Option.toList_some]
  rw [List.set_append_right _ _ (by omega), hm]
  simp

theorem map_take_next {α β : Type} (f : α → β) {l : List α} {n : Nat} (hn : n < l.length) : (l.take (n + 1)).map f = (l.take n).map f ++ [f l[n]] := by
  rw [List.take_add_one, List.getElem?_eq_getElem hn, List.map_append]; rfl

theorem toKids_loop (l : List S322) (hl : l.length ≤ 1048576) : ∀ n, n ≤ l.length → ∀ acc : List S249, acc.length = l.length → acc.take n = (l.take n).map toK →
    Ev (fun k => laws_toKidS.l0 k l acc (n : Int)) (l.map toK) := by
  refine down ?_ ?_
  · intro acc ha ht
    have e : acc = l.map toK := by rw [List.take_of_length_le (by omega), List.take_of_length_le (by omega)] at ht; exact ht
    subst e
    refine Ev.next (f := fun _ => some (l.map toK)) (Ev.now _) fun k => ?_
    simp only [laws_toKidS.l0]; rw [if_neg (by omega)]
  · intro n hn ih acc ha ht
    refine Ev.next (ih (acc.set n (toK l[n])) (by simpa using ha) ?_) fun k => ?_
    · rw [map_take_next toK hn]
      exact take_set_next (by omega) (by rw [List.length_map, List.length_take]; omega) ht
    · simp only [laws_toKidS.l0, laws_toKid.f, laws_toVec.f, Option.bind_some]
      rw [if_pos (by omega), if_pos (by omega), if_pos (by omega), rdLK_nat l n hn, wrap_succ (by omega), Int.toNat_natCast]
      rfl

theorem toKids_ev (l : List S322) (hl : l.length ≤ 1048576) : Ev (fun k => laws_toKidS.f k l) (l.map toK) := by
  refine Ev.congr (fun k => ?_) (toKids_loop l hl 0 (by omega) (List.replicate l.length z249) (by simp) (by simp))
  unfold laws_toKidS.f
  rw [if_pos (by omega), if_pos (by omega)]
  simp

theorem toFair_ev (a0 a1 a2 a3 : Int) (l : List S322) (hl : l.length ≤ 1048576) : Ev (fun k => laws_toFair.f k a0 a1 a2 a3 l) (a0, a1, a2, a3, l.map toK) := by
  unfold laws_toFair.f laws_toVec.f
  simp only [Option.bind_some]
  exact Ev.bind (toKids_ev l hl) (f := fun _ t => some (a0, a1, a2, a3, t)) (Ev.now _)

theorem toBranches_loop (l : List S275) (hl : l.length ≤ 1048576) (hx : ∀ x ∈ l, x.f1.f2.length ≤ 1048576) : ∀ n, n ≤ l.length → ∀ acc : List S188, acc.length = l.length → acc.take n = (l.take n).map toB →
    Ev (fun k => laws_toBranchS.l0 k l acc (n : Int)) (l.map toB) := by
  refine down ?_ ?_
  · intro acc ha ht
    have e : acc = l.map toB := by rw [List.take_of_length_le (by omega), List.take_of_length_le (by omega)] at ht; exact ht
    subst e
    refine Ev.next (f := fun _ => some (l.map toB)) (Ev.now _) fun k => ?_
    simp only [laws_toBranchS.l0]; rw [if_neg (by omega)]
  · intro n hn ih acc ha ht
    have hxn : l[n].f1.f2.length ≤ 1048576 := hx _ (List.getElem_mem hn)
    have h1 : Ev (fun k => laws_toBranch.f k l[n].f0 l[n].f1.f0 l[n].f1.f1.f0 l[n].f1.f1.f1 l[n].f1.f1.f2 l[n].f1.f2) (l[n].f0, l[n].f1.f0, l[n].f1.f1.f0, l[n].f1.f1.f1, l[n].f1.f1.f2, l[n].f1.f2.map toK) := by
      unfold laws_toBranch.f
      exact Ev.bind (toFair_ev _ _ _ _ _ hxn) (f := fun _ bt => some (l[n].f0, bt.1, bt.2.1, bt.2.2.1, bt.2.2.2.1, bt.2.2.2.2)) (Ev.now _)
    refine Ev.next (Ev.bind h1 (f := fun k bt => laws_toBranchS.l0 k l (acc.set n (⟨bt.1, (⟨bt.2.1, (⟨bt.2.2.1, bt.2.2.2.1, bt.2.2.2.2.1⟩ : S48), bt.2.2.2.2.2⟩ : S73)⟩ : S188)) ((n + 1 : Nat) : Int)) (ih (acc.set n (toB l[n])) (by simpa using ha) ?_)) fun k => ?_
    · rw [map_take_next toB hn]
      exact take_set_next (by omega) (by rw [List.length_map, List.length_take]; omega) ht
    · simp only [laws_toBranchS.l0]
      rw [if_pos (by omega), if_pos (by omega), rdLB_nat l n hn]
      simp only [if_pos (show (n : Int) < (acc.length : Int) by omega), wrap_succ (show n < 4611686018427387904 by omega), Int.toNat_natCast]

theorem toBranches_ev (l : List S275) (hl : l.length ≤ 1048576) (hx : ∀ x ∈ l, x.f1.f2.length ≤ 1048576) : Ev (fun k => laws_toBranchS.f k l) (l.map toB) := by
  refine Ev.congr (fun k => ?_) (toBranches_loop l hl hx 0 (by omega) (List.replicate l.length z188) (by simp) (by simp))
  unfold laws_toBranchS.f
  rw [if_pos (by omega), if_pos (by omega)]
  simp

theorem toTree_ev (y : S67) (hs : TreeSz y.f0.f2 y.f1) : Ev (fun k => laws_toTree.f k y.f0.f0 y.f0.f1.f0 y.f0.f1.f1 y.f0.f1.f2 y.f0.f2 y.f1) (y.f0.f0, y.f0.f1.f0, y.f0.f1.f1, y.f0.f1.f2, y.f0.f2.map toK, y.f1.map toB) := by
  unfold laws_toTree.f
  refine Ev.bind (toFair_ev _ _ _ _ _ hs.1) ?_
  exact Ev.bind (toBranches_ev _ hs.2.1 hs.2.2) (f := fun _ t => some (y.f0.f0, y.f0.f1.f0, y.f0.f1.f1, y.f0.f1.f2, y.f0.f2.map toK, t)) (Ev.now _)

theorem eqKid_eq (a b : Int) (c : Bool) (d e f : Int) : laws_eqKid.f a b c d e f a b c d e f = some true := by
  simp [laws_eqKid.f, laws_eqVec.f]

theorem eqKids_loop (l : List S249) (hl : l.length ≤ 1048576) : ∀ n, n ≤ l.length → Ev (fun k => laws_eqKidS.l0 k l l (n : Int)) true := by
  refine down ?_ ?_
  · refine Ev.next (f := fun _ => some true) (Ev.now true) fun k => ?_
    simp only [laws_eqKidS.l0]; rw [if_neg (by omega)]
  · intro n hn ih
    refine Ev.next ih fun k => ?_
    simp only [laws_eqKidS.l0]
    rw [if_pos (by omega), if_pos (by omega), if_pos (by omega), eqKid_eq, wrap_succ (by omega)]
    simp only [Option.bind_some, if_true]

theorem eqKids_ev (l : List S249) (hl : l.length ≤ 1048576) : Ev (fun k => laws_eqKidS.f k l l) true := by
  refine Ev.congr (fun k => ?_) (eqKids_loop l hl 0 (by omega))
  unfold laws_eqKidS.f
  rw [if_pos rfl]; rfl

theorem eqFair_ev (a0 a1 a2 a3 : Int) (l : List S249) (hl : l.length ≤ 1048576) : Ev (fun k => laws_eqFair.f k a0 a1 a2 a3 l a0 a1 a2 a3 l) true := by
  unfold laws_eqFair.f laws_eqVec.f
  simp only [if_true, Option.bind_some]
  exact Ev.bind (eqKids_ev l hl) (f := fun _ t => if t = true then some true else some false) (Ev.now _)

theorem eqBranches_loop (l : List S188) (hl : l.length ≤ 1048576) (hx : ∀ x ∈ l, x.f1.f2.length ≤ 1048576) : ∀ n, n ≤ l.length → Ev (fun k => laws_eqBranchS.l0 k l l (n : Int)) true := by
  refine down ?_ ?_
  · refine Ev.next (f := fun _ => some true) (Ev.now true) fun k => ?_
    simp only [laws_eqBranchS.l0]; rw [if_neg (by omega)]
  · intro n hn ih
    have hxn : l[n].f1.f2.length ≤ 1048576 := hx _ (List.getElem_mem hn)
    have h1 : Ev (fun k => laws_eqBranch.f k l[n].f0 l[n].f1.f0 l[n].f1.f1.f0 l[n].f1.f1.f1 l[n].f1.f1.f2 l[n].f1.f2 l[n].f0 l[n].f1.f0 l[n].f1.f1.f0 l[n].f1.f1.f1 l[n].f1.f1.f2 l[n].f1.f2) true := by
      unfold laws_eqBranch.f
      simp only [if_true]
      exact Ev.bind (eqFair_ev _ _ _ _ _ hxn) (f := fun _ t => if t = true then some true else some false) (Ev.now _)
    refine Ev.next (Ev.bind h1 (f := fun k t => if t = true then laws_eqBranchS.l0 k l l ((n + 1 : Nat) : Int) else some false) ih) fun k => ?_
    simp only [laws_eqBranchS.l0]
    rw [if_pos (by omega), if_pos (by omega), if_pos (by omega), rdB_nat l n hn, wrap_succ (by omega)]

theorem eqBranches_ev (l : List S188) (hl : l.length ≤ 1048576) (hx : ∀ x ∈ l, x.f1.f2.length ≤ 1048576) : Ev (fun k => laws_eqBranchS.f k l l) true := by
  refine Ev.congr (fun k => ?_) (eqBranches_loop l hl hx 0 (by omega))
  unfold laws_eqBranchS.f
  rw [if_pos rfl]; rfl

theorem eqTree_ev (a0 a1 a2 a3 : Int) (l : List S249) (b : List S188) (hl : l.length ≤ 1048576) (hb : b.length ≤ 1048576) (hx : ∀ x ∈ b, x.f1.f2.length ≤ 1048576) : Ev (fun k => laws_eqTree.f k a0 a1 a2 a3 l b a0 a1 a2 a3 l b) true := by
  unfold laws_eqTree.f
  refine Ev.bind (eqFair_ev _ _ _ _ _ hl) ?_
  simp only [if_true]
  exact Ev.bind (eqBranches_ev _ hb hx) (f := fun _ t => if t = true then some true else some false) (Ev.now _)

theorem toB_len {l : List S275} (hx : ∀ x ∈ l, x.f1.f2.length ≤ 1048576) : ∀ x ∈ l.map toB, x.f1.f2.length ≤ 1048576 := by
  intro x h
  obtain ⟨y, hy, rfl⟩ := List.mem_map.1 h
  simpa [toB, toF] using hx y hy

theorem within_eq (a b c : Int) : impl_within.f a b c = some (decide (b ≤ a ∧ a ≤ c)) := by
  unfold impl_within.f
  by_cases h : a ≥ b
  · rw [if_pos h]; congr 1; simp; omega
  · rw [if_neg h]; congr 1; simp; omega

/-- Is each of the three from lo to hi? -/
def vFrom (a b c lo hi : Int) : Bool := decide ((lo ≤ a ∧ a ≤ hi) ∧ (lo ≤ b ∧ b ≤ hi) ∧ (lo ≤ c ∧ c ≤ hi))

theorem sAll_eq (a b c lo hi : Int) : spec_l13All.f a b c lo hi = some (vFrom a b c lo hi) := by
  unfold spec_l13All.f vFrom
  repeat' split
  all_goals (congr 1; first | exact dec_iff (by omega) | exact dec_false (by omega) | exact dec_true (by omega))

theorem iFrom_eq (a b c lo hi : Int) : impl_Vec_isFrom.f a b c lo hi = some (vFrom a b c lo hi) := by
  unfold impl_Vec_isFrom.f vFrom
  simp only [within_eq, Option.bind_some, decide_eq_true_eq]
  repeat' split
  all_goals (congr 1; first | exact dec_iff (by omega) | exact dec_false (by omega) | exact dec_true (by omega))

/-- Is a tag's spread at most the delta? -/
def narrowM (a b c d : Int) : Bool := vFrom a b c 0 1000000000000 && (decide (0 ≤ d ∧ d ≤ 10000000) && decide (mx (mx a b) c - d ≤ a ∧ mx (mx a b) c - d ≤ b ∧ mx (mx a b) c - d ≤ c))

theorem mx_cases (a b : Int) : (mx a b = a ∧ b ≤ a) ∨ (mx a b = b ∧ a < b) := by
  unfold mx; by_cases h : a < b
  · rw [if_pos h]; exact .inr ⟨rfl, h⟩
  · rw [if_neg h]; exact .inl ⟨rfl, by omega⟩
theorem mn_cases (a b : Int) : (mn a b = a ∧ a ≤ b) ∨ (mn a b = b ∧ b < a) := by
  unfold mn; by_cases h : b < a
  · rw [if_pos h]; exact .inr ⟨rfl, h⟩
  · rw [if_neg h]; exact .inl ⟨rfl, by omega⟩

theorem sNarrow_eq (a b c d : Int) : spec_Narrow.f a b c d = some (narrowM a b c d) := by
  unfold spec_Narrow.f spec_TagOk.f spec_l13Delta.f spec_VecTop.f narrowM
  simp only [sAll_eq, Option.bind_some]
  cases hv : vFrom a b c 0 1000000000000 with
  | false => simp
  | true =>
    have hv' : (0 ≤ a ∧ a ≤ 1000000000000) ∧ (0 ≤ b ∧ b ≤ 1000000000000) ∧ (0 ≤ c ∧ c ≤ 1000000000000) := by simpa [vFrom] using hv
    by_cases h1 : d ≥ 0
    · by_cases h2 : d ≤ 10000000
      · have c1 := mx_cases a b
        have c2 := mx_cases (mx a b) c
        have c3 := mn_cases a b
        have c4 := mn_cases (mn a b) c
        have hw : wrap64 (mx (mx a b) c - d) = mx (mx a b) c - d := wrap_id (by omega) (by omega)
        simp only [if_true, if_pos h1, Option.bind_some, h2, decide_true, hw, decide_eq_true (show 0 ≤ d ∧ True from ⟨h1, trivial⟩), Bool.true_and]
        congr 1
        exact dec_iff (by omega)
      · simp only [if_true, if_pos h1, Option.bind_some, decide_eq_false h2, decide_eq_false (show ¬ (0 ≤ d ∧ d ≤ 10000000) by omega), Bool.false_and, Bool.and_false, if_neg (show ¬ (false = true) by decide)]
    · simp only [if_true, if_neg h1, Option.bind_some, decide_eq_false (show ¬ (0 ≤ d ∧ d ≤ 10000000) by omega), Bool.false_and, Bool.and_false, if_neg (show ¬ (false = true) by decide)]

theorem iNarrow_eq (a b c d : Int) : impl_Narrow.f a b c d = some (narrowM a b c d) := by
  unfold impl_Narrow.f impl_TagOk.f impl_isDelta.f impl_VecTop.f narrowM
  simp only [iFrom_eq, within_eq, Option.bind_some]
  cases hv : vFrom a b c 0 1000000000000 with
  | false => simp
  | true =>
    have hv' : (0 ≤ a ∧ a ≤ 1000000000000) ∧ (0 ≤ b ∧ b ≤ 1000000000000) ∧ (0 ≤ c ∧ c ≤ 1000000000000) := by simpa [vFrom] using hv
    by_cases h1 : 0 ≤ d ∧ d ≤ 10000000
    · have c1 := mx_cases a b
      have c2 := mx_cases (mx a b) c
      have hw : wrap64 (mx (mx a b) c - d) = mx (mx a b) c - d := wrap_id (by omega) (by omega)
      simp only [if_true, decide_eq_true h1, hw, Bool.true_and]
      congr 1
      unfold vFrom
      exact dec_iff (by omega)
    · simp only [if_true, decide_eq_false h1, Bool.false_and, Bool.and_false, if_neg (show ¬ (false = true) by decide)]

theorem wrap_stride (b : Int) (h0 : 1 ≤ b) : wrap64 (Int.tdiv 2520 b) = 2520 / b := by
  have e : Int.tdiv 2520 b = 2520 / b := Int.tdiv_eq_ediv_of_nonneg (by omega)
  have h1 : 0 ≤ 2520 / b := Int.ediv_nonneg (by omega) (by omega)
  have h2 : 2520 / b ≤ 2520 := Int.ediv_le_self _ (by omega)
  rw [e, wrap_id (by omega) (by omega)]

/-- The stride of a weight. -/
def stride (b : Int) : Int := if 1 ≤ b ∧ b ≤ 10 then 2520 / b else 0

theorem sStride_eq (b : Int) : spec_Stride.f b = some (stride b) := by
  unfold spec_Stride.f stride
  by_cases h1 : b < 1
  · rw [if_pos h1, if_neg (by omega)]
  · rw [if_neg h1]
    by_cases h2 : b > 10
    · rw [if_pos h2, if_neg (by omega)]
    · rw [if_neg h2, if_neg (by omega), if_pos (by omega), wrap_stride b (by omega)]

theorem stride_pos {b : Int} (h : 1 ≤ b ∧ b ≤ 10) : 252 ≤ stride b ∧ stride b ≤ 2520 := by
  unfold stride
  rw [if_pos h]
  constructor
  · rw [Int.le_ediv_iff_mul_le (by omega)]; omega
  · exact Int.ediv_le_self _ (by omega)

theorem stride_zero (b : Int) : stride b = 0 ↔ ¬ (1 ≤ b ∧ b ≤ 10) := by
  by_cases h : 1 ≤ b ∧ b ≤ 10
  · have := stride_pos h
    constructor
    · intro h2; omega
    · intro h2; exact absurd h h2
  · unfold stride; simp [h]

theorem stride_bd (b : Int) : 0 ≤ stride b ∧ stride b ≤ 2520 := by
  by_cases h : 1 ≤ b ∧ b ≤ 10
  · have := stride_pos h; omega
  · have := (stride_zero b).2 h; omega

theorem isWeight_eq (b : Int) : impl_isWeight.f b = some (decide (1 ≤ b ∧ b ≤ 10)) := by
  unfold impl_isWeight.f; rw [within_eq]; rfl

theorem iStride_eq (b : Int) : impl_Stride.f b = some (stride b) := by
  unfold impl_Stride.f stride
  rw [isWeight_eq]
  by_cases h : 1 ≤ b ∧ b ≤ 10
  · simp only [Option.bind_some, decide_eq_true h, if_true, if_pos h]
    rw [if_neg (by omega), wrap_stride b (by omega)]
  · simp only [Option.bind_some, decide_eq_false h, if_neg h]
    rfl

abbrev topK (x : S249) : Int := mx (mx x.f3.f0 x.f3.f1) x.f3.f2
def kid1 (a : Int) (x : S249) : Bool := decide (0 ≤ x.f0 ∧ x.f0 ≤ 9999) && (decide (1 ≤ x.f1 ∧ x.f1 ≤ 10) && narrowM x.f3.f0 x.f3.f1 x.f3.f2 a)
def kid2 (t : Int) (x : S249) : Bool := decide (topK x ≤ wrap64 (t + wrap64 (stride x.f1 * 2000))) && (!x.f2 || decide (t ≤ topK x))
def ordAt (L : List S249) (n : Nat) : Bool := decide (n = 0) || decide ((L.getD (n - 1) z249).f0 < (L.getD n z249).f0)
def kidAt (a t : Int) (L : List S249) (n : Nat) : Bool := kid1 a (L.getD n z249) && (kid2 t (L.getD n z249) && ordAt L n)
def kidsFrom (a t : Int) (L : List S249) : Nat → Nat → Bool
  | 0, _ => true
  | d + 1, n => kidAt a t L n && kidsFrom a t L d (n + 1)
def fairM (a b c d : Int) (L : List S249) : Bool := narrowM b c d a && (decide (mx (mx b c) d ≤ 100000000000) && (decide (L.length ≤ 48) && kidsFrom a (mx (mx b c) d) L L.length 0))

theorem sFair_j2 (a b c d : Int) (L : List S249) (n : Int) (x : S249) (r : Bool) (hr : Ev (fun k => spec_FairOk.l0 k (wrap64 (n + 1)) a b c d L) r) (t : Bool) :
    Ev (fun k => spec_FairOk.j2 k n t a b c d L x.f0 x.f1 x.f2 x.f3.f0 x.f3.f1 x.f3.f2) (!t && (kid2 (mx (mx b c) d) x && r)) := by
  cases t with
  | true => exact Ev.next (f := fun _ => some false) (Ev.now _) fun k => by simp [spec_FairOk.j2]
  | false =>
    by_cases h1 : topK x > wrap64 (mx (mx b c) d + wrap64 (stride x.f1 * 2000))
    · refine Ev.to (Ev.next (f := fun _ => some false) (Ev.now _) fun k => ?_) ?_
      · simp only [spec_FairOk.j2, spec_VecTop.f, sStride_eq, Option.bind_some]; rw [if_neg (by decide), if_pos h1]
      · unfold kid2; rw [decide_eq_false (by omega)]; simp
    · cases hb : x.f2 with
      | false =>
        refine Ev.to (Ev.next hr fun k => ?_) ?_
        · simp only [spec_FairOk.j2, spec_VecTop.f, sStride_eq, Option.bind_some]; rw [if_neg (by decide), if_neg h1, if_neg (by decide)]
        · unfold kid2; rw [hb, decide_eq_true (by omega)]; simp
      | true =>
        by_cases h2 : topK x < mx (mx b c) d
        · refine Ev.to (Ev.next (f := fun _ => some false) (Ev.now _) fun k => ?_) ?_
          · simp only [spec_FairOk.j2, spec_VecTop.f, sStride_eq, Option.bind_some]; rw [if_neg (by decide), if_neg h1, if_pos trivial, if_pos h2]
          · unfold kid2; rw [hb, decide_eq_false (show ¬ mx (mx b c) d ≤ topK x by omega)]; simp
        · refine Ev.to (Ev.next hr fun k => ?_) ?_
          · simp only [spec_FairOk.j2, spec_VecTop.f, sStride_eq, Option.bind_some]; rw [if_neg (by decide), if_neg h1, if_pos trivial, if_neg h2]
          · unfold kid2; rw [hb, decide_eq_true (show mx (mx b c) d ≤ topK x by omega), decide_eq_true (show topK x ≤ _ by omega)]; simp

theorem sFair_loop (a b c d : Int) (L : List S249) (hl : L.length ≤ 1048576) : ∀ m n, n + m = L.length → Ev (fun k => spec_FairOk.l0 k (n : Int) a b c d L) (kidsFrom a (mx (mx b c) d) L m n) := by
  intro m
  induction m with
  | zero =>
    intro n hn
    refine Ev.next (f := fun _ => some _) (Ev.now _) fun k => ?_
    simp only [spec_FairOk.l0]; rw [if_neg (by omega)]; rfl
  | succ m ih =>
    intro n hn
    have hlt : n < L.length := by omega
    have hg : L.getD n z249 = L[n] := getD_lt _ hlt
    have hr := ih (n + 1) (by omega)
    rw [show ((n + 1 : Nat) : Int) = wrap64 ((n : Int) + 1) from (wrap_succ (by omega)).symm] at hr
    have hj := sFair_j2 a b c d L n L[n] _ hr
    simp only [kidsFrom, kidAt, hg, kid1]
    by_cases h1 : L[n].f0 < 0
    · refine Ev.to (Ev.next (hj true) fun k => ?_) (by rw [decide_eq_false (show ¬ (0 ≤ L[n].f0 ∧ L[n].f0 ≤ 9999) by omega)]; simp)
      simp only [spec_FairOk.l0]; rw [if_pos (by omega), if_pos (by omega), rdK_nat L n hlt, if_pos h1]
    by_cases h2 : L[n].f0 > 9999
    · refine Ev.to (Ev.next (hj true) fun k => ?_) (by rw [decide_eq_false (show ¬ (0 ≤ L[n].f0 ∧ L[n].f0 ≤ 9999) by omega)]; simp)
      simp only [spec_FairOk.l0]; rw [if_pos (by omega), if_pos (by omega), rdK_nat L n hlt, if_neg h1, if_pos h2]
    rw [decide_eq_true (show 0 ≤ L[n].f0 ∧ L[n].f0 ≤ 9999 by omega)]
    have hcom : Ev (fun k => (spec_Stride.f L[n].f1).bind fun t148 => if t148 = 0 then spec_FairOk.j2 k (n : Int) true a b c d L L[n].f0 L[n].f1 L[n].f2 L[n].f3.f0 L[n].f3.f1 L[n].f3.f2 else (spec_Narrow.f L[n].f3.f0 L[n].f3.f1 L[n].f3.f2 a).bind fun t149 => spec_FairOk.j2 k (n : Int) (!t149) a b c d L L[n].f0 L[n].f1 L[n].f2 L[n].f3.f0 L[n].f3.f1 L[n].f3.f2)
        (decide (1 ≤ L[n].f1 ∧ L[n].f1 ≤ 10) && (narrowM L[n].f3.f0 L[n].f3.f1 L[n].f3.f2 a && (kid2 (mx (mx b c) d) L[n] && kidsFrom a (mx (mx b c) d) L m (n + 1)))) := by
      simp only [sStride_eq, sNarrow_eq, Option.bind_some]
      by_cases hw : 1 ≤ L[n].f1 ∧ L[n].f1 ≤ 10
      · simp only [if_neg (show ¬ stride L[n].f1 = 0 from fun h => (stride_zero _).1 h hw), decide_eq_true hw]
        exact Ev.to (hj _) (by simp)
      · simp only [if_pos ((stride_zero _).2 hw), decide_eq_false hw]
        exact Ev.to (hj true) (by simp)
    by_cases h0 : n = 0
    · subst h0
      refine Ev.to (Ev.next hcom fun k => ?_) (by unfold ordAt; simp [Bool.and_assoc])
      simp only [spec_FairOk.l0]; rw [if_pos (by omega), if_pos (by omega), rdK_nat L 0 hlt, if_neg h1, if_neg h2, if_neg (by omega)]
    · have hp : L.getD (n - 1) z249 = L[n - 1] := getD_lt _ (by omega)
      by_cases h3 : L[n - 1].f0 ≥ L[n].f0
      · refine Ev.to (Ev.next (hj true) fun k => ?_) (by unfold ordAt; rw [hp, hg, decide_eq_false h0, decide_eq_false (show ¬ L[n - 1].f0 < L[n].f0 by omega)]; simp)
        simp only [spec_FairOk.l0]; rw [if_pos (by omega), if_pos (by omega), rdK_nat L n hlt, if_neg h1, if_neg h2, if_pos (by omega), wrap_pred (by omega) (by omega), if_pos (by omega), if_pos (by omega), rdK_nat L (n - 1) (by omega), if_pos h3]
      · refine Ev.to (Ev.next hcom fun k => ?_) (by unfold ordAt; rw [hp, hg, decide_eq_true (show L[n - 1].f0 < L[n].f0 by omega)]; simp [Bool.and_assoc])
        simp only [spec_FairOk.l0]; rw [if_pos (by omega), if_pos (by omega), rdK_nat L n hlt, if_neg h1, if_neg h2, if_pos (by omega), wrap_pred (by omega) (by omega), if_pos (by omega), if_pos (by omega), rdK_nat L (n - 1) (by omega), if_neg h3]

theorem sFair_ev (a b c d : Int) (L : List S249) (hl : L.length ≤ 1048576) : Ev (fun k => spec_FairOk.f k a b c d L) (fairM a b c d L) := by
  have hj : ∀ t : Bool, Ev (fun k => spec_FairOk.j0 k t a b c d L) (!t && kidsFrom a (mx (mx b c) d) L L.length 0) := by
    intro t
    cases t with
    | true => exact Ev.next (f := fun _ => some false) (Ev.now _) fun k => by simp [spec_FairOk.j0]
    | false => exact Ev.to (Ev.next (sFair_loop a b c d L hl L.length 0 (by omega)) fun k => by simp [spec_FairOk.j0]) (by simp)
  unfold spec_FairOk.f fairM
  simp only [sNarrow_eq, spec_VecTop.f, Option.bind_some]
  cases narrowM b c d a with
  | false => exact Ev.to (hj true) (by simp)
  | true =>
    simp only [if_true]
    by_cases h : mx (mx b c) d > 100000000000
    · simp only [if_pos h]; exact Ev.to (hj true) (by rw [decide_eq_false (show ¬ mx (mx b c) d ≤ 100000000000 by omega)]; simp)
    · simp only [if_neg h]
      refine Ev.to (hj _) ?_
      rw [decide_eq_true (show mx (mx b c) d ≤ 100000000000 by omega)]
      by_cases h2 : L.length ≤ 48
      · rw [decide_eq_false (show ¬ (L.length : Int) > 48 by omega), decide_eq_true h2]; simp
      · rw [decide_eq_true (show (L.length : Int) > 48 by omega), decide_eq_false h2]; simp

theorem iKid_eq (a b c d : Int) (L : List S249) (x : S249) : impl_Fair_kidOk.f a b c d L x.f0 x.f1 x.f2 x.f3.f0 x.f3.f1 x.f3.f2 = some (kid1 a x && kid2 (mx (mx b c) d) x) := by
  unfold impl_Fair_kidOk.f kid1 kid2
  simp only [impl_VecTop.f, impl_isFlow.f, within_eq, isWeight_eq, iNarrow_eq, iStride_eq, Option.bind_some]
  by_cases h1 : 0 ≤ x.f0 ∧ x.f0 ≤ 9999
  · by_cases h2 : 1 ≤ x.f1 ∧ x.f1 ≤ 10
    · cases narrowM x.f3.f0 x.f3.f1 x.f3.f2 a with
      | false => simp
      | true =>
        simp only [decide_eq_true h1, decide_eq_true h2, if_true, Bool.true_and]
        by_cases h3 : topK x ≤ wrap64 (mx (mx b c) d + wrap64 (stride x.f1 * 2000))
        · rw [if_pos h3, decide_eq_true h3]
          cases x.f2 with
          | false => simp
          | true => simp
        · rw [if_neg h3, decide_eq_false h3]; simp
    · simp [h2]
  · simp [h1]

theorem iFair_loop (a b c d : Int) (L : List S249) (hl : L.length ≤ 1048576) : ∀ m n, n + m = L.length → Ev (fun k => impl_FairOk.l0 k L (L.length : Int) (n : Int) a b c d L) (kidsFrom a (mx (mx b c) d) L m n) := by
  intro m
  induction m with
  | zero =>
    intro n hn
    refine Ev.next (f := fun _ => some _) (Ev.now _) fun k => ?_
    simp only [impl_FairOk.l0]; rw [if_neg (by omega)]; rfl
  | succ m ih =>
    intro n hn
    have hlt : n < L.length := by omega
    have hg : L.getD n z249 = L[n] := getD_lt _ hlt
    have hr := ih (n + 1) (by omega)
    rw [show ((n + 1 : Nat) : Int) = wrap64 ((n : Int) + 1) from (wrap_succ (by omega)).symm] at hr
    simp only [kidsFrom, kidAt, hg, ← Bool.and_assoc]
    cases hk : (kid1 a L[n] && kid2 (mx (mx b c) d) L[n]) with
    | false =>
      refine Ev.to (Ev.next (f := fun _ => some false) (Ev.now _) fun k => ?_) (by simp)
      simp only [impl_FairOk.l0]; rw [if_pos (by omega), if_pos (by omega), if_pos (by omega), rdK_nat L n hlt, iKid_eq, hk]; rfl
    | true =>
      by_cases h0 : n = 0
      · subst h0
        refine Ev.to (Ev.next hr fun k => ?_) (by unfold ordAt; simp)
        simp only [impl_FairOk.l0]; rw [if_pos (by omega), if_pos (by omega), if_pos (by omega), rdK_nat L 0 hlt, iKid_eq, hk]; simp only [Option.bind_some, if_true]; rw [if_neg (by omega)]
      · have hp : L.getD (n - 1) z249 = L[n - 1] := getD_lt _ (by omega)
        by_cases h3 : L[n - 1].f0 ≥ L[n].f0
        · refine Ev.to (Ev.next (f := fun _ => some false) (Ev.now _) fun k => ?_) (by unfold ordAt; rw [hp, hg, decide_eq_false h0, decide_eq_false (show ¬ L[n - 1].f0 < L[n].f0 by omega)]; simp)
          simp only [impl_FairOk.l0]; rw [if_pos (by omega), if_pos (by omega), if_pos (by omega), rdK_nat L n hlt, iKid_eq, hk]; simp only [Option.bind_some, if_true]; rw [if_pos (by omega), wrap_pred (by omega) (by omega), if_pos (by omega), if_pos (by omega), rdK_nat L (n - 1) (by omega), if_pos h3]
        · refine Ev.to (Ev.next hr fun k => ?_) (by unfold ordAt; rw [hp, hg, decide_eq_true (show L[n - 1].f0 < L[n].f0 by omega)]; simp)
          simp only [impl_FairOk.l0]; rw [if_pos (by omega), if_pos (by omega), if_pos (by omega), rdK_nat L n hlt, iKid_eq, hk]; simp only [Option.bind_some, if_true]; rw [if_pos (by omega), wrap_pred (by omega) (by omega), if_pos (by omega), if_pos (by omega), rdK_nat L (n - 1) (by omega), if_neg h3]

theorem iFair_ev (a b c d : Int) (L : List S249) (hl : L.length ≤ 1048576) : Ev (fun k => impl_FairOk.f k a b c d L) (fairM a b c d L) := by
  have hj : ∀ t : Bool, Ev (fun k => impl_FairOk.j0 k t a b c d L) (!t && kidsFrom a (mx (mx b c) d) L L.length 0) := by
    intro t
    cases t with
    | true => exact Ev.next (f := fun _ => some false) (Ev.now _) fun k => by simp [impl_FairOk.j0]
    | false => exact Ev.to (Ev.next (iFair_loop a b c d L hl L.length 0 (by omega)) fun k => by simp [impl_FairOk.j0]) (by simp)
  unfold impl_FairOk.f fairM
  simp only [iNarrow_eq, impl_VecTop.f, Option.bind_some]
  cases narrowM b c d a with
  | false => exact Ev.to (hj true) (by simp)
  | true =>
    simp only [if_true]
    by_cases h : mx (mx b c) d > 100000000000
    · simp only [if_pos h]; exact Ev.to (hj true) (by rw [decide_eq_false (show ¬ mx (mx b c) d ≤ 100000000000 by omega)]; simp)
    · simp only [if_neg h]
      refine Ev.to (hj _) ?_
      rw [decide_eq_true (show mx (mx b c) d ≤ 100000000000 by omega)]
      by_cases h2 : L.length ≤ 48
      · rw [decide_eq_false (show ¬ (L.length : Int) > 48 by omega), decide_eq_true h2]; simp
      · rw [decide_eq_true (show (L.length : Int) > 48 by omega), decide_eq_false h2]; simp

/-- The one that is picked next: of those that wait the first with the least tag. -/
def pickStep (L : List S249) (b : Int) (n : Nat) : Int := if (L.getD n z249).f2 = true then (if b < 0 then (n : Int) else if topK (L.getD n z249) < topK (rd_T249 L b) then (n : Int) else b) else b
def pickFrom (L : List S249) : Nat → Nat → Int → Int
  | 0, _, b => b
  | d + 1, n, b => pickFrom L d (n + 1) (pickStep L b n)
def pickM (L : List S249) : Int := pickFrom L L.length 0 (-1)

theorem pickStep_lt {L : List S249} {b : Int} {n : Nat} (hb : b < L.length) (hn : n < L.length) : pickStep L b n < L.length := by
  unfold pickStep; repeat' split
  all_goals omega
theorem pickStep_le {L : List S249} {b : Int} {n : Nat} (hb : -1 ≤ b) : -1 ≤ pickStep L b n := by
  unfold pickStep; repeat' split
  all_goals omega
theorem pickFrom_bd {L : List S249} : ∀ m n b, n + m = L.length → -1 ≤ b → b < (L.length : Int) → -1 ≤ pickFrom L m n b ∧ pickFrom L m n b < L.length := by
  intro m
  induction m with
  | zero => intro n b hn h0 h1; exact ⟨h0, h1⟩
  | succ m ih => intro n b hn h0 h1; exact ih (n + 1) _ (by omega) (pickStep_le h0) (pickStep_lt h1 (by omega))
theorem pickM_bd (L : List S249) : -1 ≤ pickM L ∧ pickM L < L.length ∨ L.length = 0 ∧ pickM L = -1 := by
  by_cases h : L.length = 0
  · right; unfold pickM; rw [h]; exact ⟨rfl, rfl⟩
  · left; exact pickFrom_bd L.length 0 (-1) (by omega) (by omega) (by omega)

theorem pickFrom_busy {L : List S249} : ∀ m n b, n + m = L.length → (0 ≤ pickFrom L m n b ↔ (0 ≤ b ∨ (L.drop n).any (fun x => x.f2) = true)) := by
  intro m
  induction m with
  | zero => intro n b hn; rw [List.drop_eq_nil_of_le (by omega)]; simp [pickFrom]
  | succ m ih =>
    intro n b hn
    have hlt : n < L.length := by omega
    have hg : L.getD n z249 = L[n] := getD_lt _ hlt
    rw [pickFrom, ih (n + 1) _ (by omega), any_drop hlt]
    unfold pickStep; rw [hg]
    cases hf : L[n].f2 with
    | false => simp
    | true =>
      simp only [if_true, Bool.true_or, or_true, iff_true]
      left
      repeat' split
      all_goals omega
theorem pickM_busy (L : List S249) : 0 ≤ pickM L ↔ L.any (fun x => x.f2) = true := by
  unfold pickM; rw [pickFrom_busy L.length 0 (-1) (by omega)]; simp

theorem iPick_loop (a b c d : Int) (L : List S249) (hl : L.length ≤ 1048576) : ∀ m n, n + m = L.length → ∀ x : Int, x < L.length → Ev (fun k => impl_Fair_pick.l0 k x L (L.length : Int) (n : Int) a b c d L) (pickFrom L m n x) := by
  intro m
  induction m with
  | zero =>
    intro n hn x hx
    refine Ev.next (f := fun _ => some x) (Ev.now _) fun k => ?_
    simp only [impl_Fair_pick.l0]; rw [if_neg (by omega)]
  | succ m ih =>
    intro n hn x hx
    have hlt : n < L.length := by omega
    have hg : L.getD n z249 = L[n] := getD_lt _ hlt
    refine Ev.next (ih (n + 1) (by omega) (pickStep L x n) (pickStep_lt hx hlt)) fun k => ?_
    simp only [impl_Fair_pick.l0, impl_VecTop.f, Option.bind_some]
    rw [if_pos (by omega), if_pos (by omega), if_pos (by omega), rdK_nat L n hlt, wrap_succ (by omega)]
    unfold pickStep; rw [hg]
    cases hf : L[n].f2 with
    | false => simp
    | true =>
      simp only [if_true]
      by_cases h0 : x < 0
      · rw [if_pos h0, if_pos h0]
      · rw [if_neg h0, if_neg h0, if_pos (by omega), if_pos (by omega)]
        by_cases h1 : topK L[n] < topK (rd_T249 L x)
        · rw [if_pos h1, if_pos h1]
        · rw [if_neg h1, if_neg h1]

theorem iPick_ev (a b c d : Int) (L : List S249) (hl : L.length ≤ 1048576) : Ev (fun k => impl_Fair_pick.f k a b c d L) (pickM L) := by
  unfold impl_Fair_pick.f pickM
  exact iPick_loop a b c d L hl L.length 0 (by omega) (-1) (by omega)

theorem iBusyAny_ev (a b c d : Int) (L : List S249) (hl : L.length ≤ 1048576) : Ev (fun k => impl_Fair_isBusy.f k a b c d L) (L.any (fun x => x.f2)) := by
  unfold impl_Fair_isBusy.f
  refine Ev.to (Ev.bind (iPick_ev a b c d L hl) (f := fun _ t => some (decide (t ≥ 0))) (Ev.now _)) ?_
  rw [Bool.eq_iff_iff, decide_eq_true_eq]
  exact pickM_busy L

theorem sBusyIds_loop (a b c d : Int) (L : List S249) (hl : L.length ≤ 1048576) : ∀ n, n ≤ L.length → ∀ acc : List Int, acc.length ≤ n → Ev (fun k => spec_l19Busy.l0 k acc (n : Int) a b c d L) (acc ++ ((L.drop n).filter (fun x => x.f2)).map (fun x => x.f0)) := by
  refine down ?_ ?_
  · intro acc ha
    refine Ev.to (Ev.next (f := fun _ => some acc) (Ev.now _) fun k => ?_) (by simp)
    simp only [spec_l19Busy.l0]; rw [if_neg (by omega)]
  · intro n hn ih acc ha
    rw [List.drop_eq_getElem_cons hn, List.filter_cons]
    cases hf : L[n].f2 with
    | false =>
      refine Ev.to (Ev.next (ih acc (by omega)) fun k => ?_) (by simp)
      simp only [spec_l19Busy.l0]
      rw [if_pos (by omega), if_pos (by omega), rdK_nat L n hn, hf, if_neg (by decide), wrap_succ (by omega)]
    | true =>
      refine Ev.to (Ev.next (ih (acc ++ [L[n].f0]) (by simp; omega)) fun k => ?_) (by simp)
      simp only [spec_l19Busy.l0]
      rw [if_pos (by omega), if_pos (by omega), rdK_nat L n hn, hf, if_pos rfl, if_pos (by omega), wrap_succ (by omega)]

theorem sBusyIds_ev (a b c d : Int) (L : List S249) (hl : L.length ≤ 1048576) : Ev (fun k => spec_l19Busy.f k a b c d L) ((L.filter (fun x => x.f2)).map (fun x => x.f0)) := by
  have := sBusyIds_loop a b c d L hl 0 (by omega) [] (by simp)
  simpa [spec_l19Busy.f] using this

theorem busy_ids (L : List S249) : decide ((((L.filter (fun x => x.f2)).map (fun x => x.f0)).length : Int) > 0) = L.any (fun x => x.f2) := by
  rw [Bool.eq_iff_iff, decide_eq_true_eq, List.length_map, List.any_eq_true]
  constructor
  · intro h
    obtain ⟨x, hx⟩ := List.exists_mem_of_length_pos (l := L.filter (fun x => x.f2)) (by omega)
    rw [List.mem_filter] at hx
    exact ⟨x, hx.1, hx.2⟩
  · rintro ⟨x, h1, h2⟩
    have := List.length_pos_of_mem (List.mem_filter.2 ⟨h1, h2⟩)
    exact Int.ofNat_lt.2 this

def branchAt (a : Int) (K : List S249) (B : List S188) (n : Nat) : Bool :=
  decide ((B.getD n z188).f0 = (K.getD n z249).f0) && (decide ((B.getD n z188).f1.f0 = a) &&
    (fairM (B.getD n z188).f1.f0 (B.getD n z188).f1.f1.f0 (B.getD n z188).f1.f1.f1 (B.getD n z188).f1.f1.f2 (B.getD n z188).f1.f2 && ((K.getD n z249).f2 == (B.getD n z188).f1.f2.any (fun x => x.f2))))
def branchesFrom (a : Int) (K : List S249) (B : List S188) : Nat → Nat → Bool
  | 0, _ => true
  | d + 1, n => branchAt a K B n && branchesFrom a K B d (n + 1)
def treeM (a b c d : Int) (K : List S249) (B : List S188) : Bool := fairM a b c d K && (decide (B.length = K.length) && branchesFrom a K B B.length 0)

theorem sTree_loop (a b c d : Int) (K : List S249) (B : List S188) (hk : B.length = K.length) (hl : B.length ≤ 1048576) (hx : ∀ x ∈ B, x.f1.f2.length ≤ 1048576) : ∀ m n, n + m = B.length → Ev (fun k => spec_TreeOk.l0 k (n : Int) a b c d K B) (branchesFrom a K B m n) := by
  intro m
  induction m with
  | zero =>
    intro n hn
    refine Ev.next (f := fun _ => some _) (Ev.now _) fun k => ?_
    simp only [spec_TreeOk.l0]; rw [if_neg (by omega)]; rfl
  | succ m ih =>
    intro n hn
    have hlt : n < B.length := by omega
    have hkt : n < K.length := by omega
    have hg : B.getD n z188 = B[n] := getD_lt _ hlt
    have hgk : K.getD n z249 = K[n] := getD_lt _ hkt
    have hxn := hx _ (List.getElem_mem hlt)
    have hr := ih (n + 1) (by omega)
    have hj : ∀ t : Bool, Ev (fun k => spec_TreeOk.j2 k (n : Int) (!t) a b c d K B B[n].f0 B[n].f1.f0 B[n].f1.f1.f0 B[n].f1.f1.f1 B[n].f1.f1.f2 B[n].f1.f2) (t && ((K[n].f2 == B[n].f1.f2.any (fun x => x.f2)) && branchesFrom a K B m (n + 1))) := by
      intro t
      cases t with
      | false => exact Ev.next (f := fun _ => some false) (Ev.now _) fun k => by simp [spec_TreeOk.j2]
      | true =>
        refine Ev.to (Ev.next (Ev.bind (sBusyIds_ev B[n].f1.f0 B[n].f1.f1.f0 B[n].f1.f1.f1 B[n].f1.f1.f2 B[n].f1.f2 hxn) (f := fun k t171 => if (K[n].f2 != decide ((t171.length : Int) > 0)) = true then some false else spec_TreeOk.l0 k ((n + 1 : Nat) : Int) a b c d K B) (r := (K[n].f2 == B[n].f1.f2.any (fun x => x.f2)) && branchesFrom a K B m (n + 1)) ?_) fun k => ?_) (by simp)
        · simp only [busy_ids]
          cases hb : (K[n].f2 == B[n].f1.f2.any (fun x => x.f2)) with
          | true => simp only [bne, hb, Bool.not_true, if_neg (show ¬ (false = true) by decide)]; simpa using hr
          | false => simp only [bne, hb, Bool.not_false, if_true]; exact Ev.now _
        · simp only [spec_TreeOk.j2]
          rw [if_neg (by decide), if_pos (by omega), if_pos (by omega), rdK_nat K n hkt, wrap_succ (by omega)]
    simp only [branchesFrom, branchAt, hg, hgk]
    by_cases h1 : B[n].f0 = K[n].f0
    · by_cases h2 : B[n].f1.f0 = a
      · refine Ev.to (Ev.next (Ev.bind (sFair_ev B[n].f1.f0 B[n].f1.f1.f0 B[n].f1.f1.f1 B[n].f1.f1.f2 B[n].f1.f2 hxn) (f := fun k t169 => spec_TreeOk.j2 k (n : Int) (!t169) a b c d K B B[n].f0 B[n].f1.f0 B[n].f1.f1.f0 B[n].f1.f1.f1 B[n].f1.f1.f2 B[n].f1.f2) (hj _)) fun k => ?_) (by rw [decide_eq_true h1, decide_eq_true h2]; simp [Bool.and_assoc])
        simp only [spec_TreeOk.l0]; rw [if_pos (by omega), if_pos (by omega), if_pos (by omega), rdB_nat B n hlt, rdK_nat K n hkt, if_pos h1, if_pos h2]
      · refine Ev.to (Ev.next (hj false) fun k => ?_) (by rw [decide_eq_false h2]; simp)
        simp only [spec_TreeOk.l0]; rw [if_pos (by omega), if_pos (by omega), if_pos (by omega), rdB_nat B n hlt, rdK_nat K n hkt, if_pos h1, if_neg h2]; rfl
    · refine Ev.to (Ev.next (hj false) fun k => ?_) (by rw [decide_eq_false h1]; simp)
      simp only [spec_TreeOk.l0]; rw [if_pos (by omega), if_pos (by omega), if_pos (by omega), rdB_nat B n hlt, rdK_nat K n hkt, if_neg h1]; rfl

theorem sTree_ev (a b c d : Int) (K : List S249) (B : List S188) (hk : K.length ≤ 1048576) (hl : B.length ≤ 1048576) (hx : ∀ x ∈ B, x.f1.f2.length ≤ 1048576) : Ev (fun k => spec_TreeOk.f k a b c d K B) (treeM a b c d K B) := by
  have hj : ∀ t : Bool, (t = false → B.length = K.length) → Ev (fun k => spec_TreeOk.j0 k t a b c d K B) (!t && branchesFrom a K B B.length 0) := by
    intro t ht
    cases t with
    | true => exact Ev.next (f := fun _ => some false) (Ev.now _) fun k => by simp [spec_TreeOk.j0]
    | false => exact Ev.to (Ev.next (sTree_loop a b c d K B (ht rfl) hl hx B.length 0 (by omega)) fun k => by simp [spec_TreeOk.j0]) (by simp)
  unfold spec_TreeOk.f treeM
  refine Ev.bind (sFair_ev a b c d K hk) ?_
  cases fairM a b c d K with
  | false => exact Ev.to (hj true (by simp)) (by simp)
  | true =>
    simp only [if_true]
    refine Ev.to (hj _ (fun h => ?_)) ?_
    · simp at h; omega
    · by_cases h : B.length = K.length
      · simp [h]
      · have : ¬ ((B.length : Int) = (K.length : Int)) := by omega
        simp [h, this]

theorem iTree_loop (a b c d : Int) (K : List S249) (B : List S188) (hk : B.length = K.length) (hl : B.length ≤ 1048576) (hx : ∀ x ∈ B, x.f1.f2.length ≤ 1048576) : ∀ m n, n + m = B.length → Ev (fun k => impl_TreeOk.l0 k B (B.length : Int) (n : Int) a b c d K B) (branchesFrom a K B m n) := by
  intro m
  induction m with
  | zero =>
    intro n hn
    refine Ev.next (f := fun _ => some _) (Ev.now _) fun k => ?_
    simp only [impl_TreeOk.l0]; rw [if_neg (by omega)]; rfl
  | succ m ih =>
    intro n hn
    have hlt : n < B.length := by omega
    have hkt : n < K.length := by omega
    have hg : B.getD n z188 = B[n] := getD_lt _ hlt
    have hgk : K.getD n z249 = K[n] := getD_lt _ hkt
    have hxn := hx _ (List.getElem_mem hlt)
    have hr := ih (n + 1) (by omega)
    simp only [branchesFrom, branchAt, hg, hgk]
    by_cases h1 : B[n].f0 = K[n].f0
    · refine Ev.next (Ev.bind (iFair_ev B[n].f1.f0 B[n].f1.f1.f0 B[n].f1.f1.f1 B[n].f1.f1.f2 B[n].f1.f2 hxn) (f := fun k t284 => if t284 = true then (if B[n].f1.f0 = a then ((impl_Fair_isBusy.f k B[n].f1.f0 B[n].f1.f1.f0 B[n].f1.f1.f1 B[n].f1.f1.f2 B[n].f1.f2).bind fun t285 => (if (K[n].f2 != t285) = true then (some false) else (impl_TreeOk.l0 k B (B.length : Int) ((n + 1 : Nat) : Int) a b c d K B))) else (some false)) else (some false)) ?_) fun k => ?_
      · rw [decide_eq_true h1]
        cases fairM B[n].f1.f0 B[n].f1.f1.f0 B[n].f1.f1.f1 B[n].f1.f1.f2 B[n].f1.f2 with
        | false => exact Ev.now' fun k => by simp
        | true =>
          simp only [if_true, Bool.true_and]
          by_cases h2 : B[n].f1.f0 = a
          · simp only [if_pos h2, decide_eq_true h2, Bool.true_and]
            refine Ev.bind (iBusyAny_ev _ _ _ _ _ hxn) ?_
            cases hb : (K[n].f2 == B[n].f1.f2.any (fun x => x.f2)) with
            | true => simp only [bne, hb, Bool.not_true, if_neg (show ¬ (false = true) by decide)]; simpa using hr
            | false => simp only [bne, hb, Bool.not_false, if_true]; exact Ev.now _
          · simp only [if_neg h2, decide_eq_false h2]; exact Ev.now _
      · simp only [impl_TreeOk.l0]; rw [if_pos (by omega), if_pos (by omega), if_pos (by omega), if_pos (by omega), rdB_nat B n hlt, rdK_nat K n hkt, if_pos h1, wrap_succ (by omega)]
    · refine Ev.to (Ev.next (f := fun _ => some false) (Ev.now _) fun k => ?_) (by rw [decide_eq_false h1]; simp)
      simp only [impl_TreeOk.l0]; rw [if_pos (by omega), if_pos (by omega), if_pos (by omega), if_pos (by omega), rdB_nat B n hlt, rdK_nat K n hkt, if_neg h1]

theorem iTree_ev (a b c d : Int) (K : List S249) (B : List S188) (hk : K.length ≤ 1048576) (hl : B.length ≤ 1048576) (hx : ∀ x ∈ B, x.f1.f2.length ≤ 1048576) : Ev (fun k => impl_TreeOk.f k a b c d K B) (treeM a b c d K B) := by
  have hj : ∀ t : Bool, (t = false → B.length = K.length) → Ev (fun k => impl_TreeOk.j0 k t a b c d K B) (!t && branchesFrom a K B B.length 0) := by
    intro t ht
    cases t with
    | true => exact Ev.next (f := fun _ => some false) (Ev.now _) fun k => by simp [impl_TreeOk.j0]
    | false => exact Ev.to (Ev.next (iTree_loop a b c d K B (ht rfl) hl hx B.length 0 (by omega)) fun k => by simp [impl_TreeOk.j0]) (by simp)
  unfold impl_TreeOk.f treeM
  refine Ev.bind (iFair_ev a b c d K hk) ?_
  cases fairM a b c d K with
  | false => exact Ev.to (hj true (by simp)) (by simp)
  | true =>
    simp only [if_true]
    refine Ev.to (hj _ (fun h => ?_)) ?_
    · simp at h; omega
    · by_cases h : B.length = K.length
      · simp [h]
      · have : ¬ ((B.length : Int) = (K.length : Int)) := by omega
        simp [h, this]

def fairPickM (a b c d : Int) (L : List S249) : Int := if fairM a b c d L = true then (if pickM L < 0 then -1 else (rd_T249 L (pickM L)).f0) else -1

theorem sPick_loop (a b c d : Int) (L : List S249) (hl : L.length ≤ 1048576) : ∀ m n, n + m = L.length → ∀ x : Int, x < L.length → Ev (fun k => spec_FairPick.l0 k x (n : Int) a b c d L) (if pickFrom L m n x < 0 then -1 else (rd_T249 L (pickFrom L m n x)).f0) := by
  intro m
  induction m with
  | zero =>
    intro n hn x hx
    rw [show pickFrom L 0 n x = x from rfl]
    refine Ev.next (f := fun _ => some _) (Ev.now _) fun k => ?_
    simp only [spec_FairPick.l0]; rw [if_neg (by omega)]
    by_cases h0 : x < 0
    · rw [if_pos h0, if_pos h0]
    · rw [if_neg h0, if_neg h0, if_pos (by omega), if_pos (by omega)]
  | succ m ih =>
    intro n hn x hx
    have hlt : n < L.length := by omega
    have hg : L.getD n z249 = L[n] := getD_lt _ hlt
    refine Ev.next (ih (n + 1) (by omega) (pickStep L x n) (pickStep_lt hx hlt)) fun k => ?_
    simp only [spec_FairPick.l0, spec_VecTop.f, Option.bind_some]
    rw [if_pos (by omega), if_pos (by omega), rdK_nat L n hlt, wrap_succ (by omega)]
    unfold pickStep; rw [hg]
    cases hf : L[n].f2 with
    | false => simp
    | true =>
      simp only [if_true]
      by_cases h0 : x < 0
      · rw [if_pos h0, if_pos h0]
      · rw [if_neg h0, if_neg h0, if_pos (by omega), if_pos (by omega)]
        by_cases h1 : topK L[n] < topK (rd_T249 L x)
        · rw [if_pos h1, if_pos h1]
        · rw [if_neg h1, if_neg h1]

theorem sFairPick_ev (a b c d : Int) (L : List S249) (hl : L.length ≤ 1048576) : Ev (fun k => spec_FairPick.f k a b c d L) (fairPickM a b c d L) := by
  unfold spec_FairPick.f fairPickM
  refine Ev.bind (sFair_ev a b c d L hl) ?_
  cases fairM a b c d L with
  | false => exact Ev.now' fun k => by simp
  | true => simp only [if_true]; exact sPick_loop a b c d L hl L.length 0 (by omega) (-1) (by omega)

theorem iFairPick_ev (a b c d : Int) (L : List S249) (hl : L.length ≤ 1048576) : Ev (fun k => impl_FairPick.f k a b c d L) (fairPickM a b c d L) := by
  unfold impl_FairPick.f fairPickM
  refine Ev.bind (iFair_ev a b c d L hl) ?_
  cases fairM a b c d L with
  | false => exact Ev.now' fun k => by simp
  | true =>
    simp only [if_true]
    refine Ev.bind (iPick_ev a b c d L hl) ?_
    by_cases h : pickM L < 0
    · simp only [if_pos h]; exact Ev.now _
    · simp only [if_neg h]
      refine Ev.bind (iPick_ev a b c d L hl) (Ev.now' fun k => ?_)
      have := pickM_bd L
      rw [if_pos (by omega), if_pos (by omega)]

theorem kidsFrom_at {a t : Int} {L : List S249} : ∀ m n, n + m = L.length → kidsFrom a t L m n = true → ∀ i, n ≤ i → i < L.length → kidAt a t L i = true := by
  intro m
  induction m with
  | zero => intro n hn _ i h1 h2; omega
  | succ m ih =>
    intro n hn h i h1 h2
    rw [kidsFrom, Bool.and_eq_true] at h
    by_cases e : i = n
    · subst e; exact h.1
    · exact ih (n + 1) (by omega) h.2 i (by omega) h2

theorem incr_lt {L : List S249} (hs : ∀ n (hn : n + 1 < L.length), (L[n]'(by omega)).f0 < L[n + 1].f0) : ∀ m j (h : j + m + 1 < L.length), (L[j]'(by omega)).f0 < L[j + m + 1].f0 := by
  intro m
  induction m with
  | zero => intro j h; exact hs j h
  | succ m ih =>
    intro j h
    have h1 := ih j (by omega)
    have h2 := hs (j + m + 1) h
    show _ < L[j + m + 1 + 1].f0
    omega

theorem fair_at {a b c d : Int} {L : List S249} (h : fairM a b c d L = true) {i : Nat} (hi : i < L.length) : 0 ≤ L[i].f0 ∧ ∀ j (hj : j < i), (L[j]'(by omega)).f0 < L[i].f0 := by
  unfold fairM at h
  simp only [Bool.and_eq_true] at h
  have hk := kidsFrom_at L.length 0 (by omega) h.2.2.2
  have hg : ∀ n (hn : n < L.length), L.getD n z249 = L[n] := fun n hn => getD_lt _ hn
  have h0 : ∀ n (hn : n < L.length), 0 ≤ L[n].f0 := by
    intro n hn
    have := hk n (by omega) hn
    unfold kidAt kid1 at this
    rw [hg n hn] at this
    simp only [Bool.and_eq_true, decide_eq_true_eq] at this
    exact this.1.1.1
  have hs : ∀ n (hn : n + 1 < L.length), (L[n]'(by omega)).f0 < L[n + 1].f0 := by
    intro n hn
    have := hk (n + 1) (by omega) hn
    unfold kidAt ordAt at this
    rw [hg (n + 1) hn, show n + 1 - 1 = n from rfl, hg n (by omega)] at this
    simp only [Bool.and_eq_true, Bool.or_eq_true, decide_eq_true_eq] at this
    rcases this.2.2 with h | h
    · omega
    · exact h
  refine ⟨h0 i hi, fun j hj => ?_⟩
  obtain ⟨m, rfl⟩ : ∃ m, i = j + m + 1 := ⟨i - j - 1, by omega⟩
  exact incr_lt hs m j hi

theorem branchesFrom_at {a : Int} {K : List S249} {B : List S188} : ∀ m n, n + m = B.length → branchesFrom a K B m n = true → ∀ i, n ≤ i → i < B.length → branchAt a K B i = true := by
  intro m
  induction m with
  | zero => intro n hn _ i h1 h2; omega
  | succ m ih =>
    intro n hn h i h1 h2
    rw [branchesFrom, Bool.and_eq_true] at h
    by_cases e : i = n
    · subst e; exact h.1
    · exact ih (n + 1) (by omega) h.2 i (by omega) h2

theorem tree_at {a b c d : Int} {K : List S249} {B : List S188} (h : treeM a b c d K B = true) : fairM a b c d K = true ∧ ∃ e : B.length = K.length, ∀ i (hi : i < B.length), B[i].f0 = (K[i]'(by omega)).f0 := by
  unfold treeM at h
  simp only [Bool.and_eq_true, decide_eq_true_eq] at h
  refine ⟨h.1, h.2.1, fun i hi => ?_⟩
  have := branchesFrom_at B.length 0 (by omega) h.2.2 i (by omega) hi
  unfold branchAt at this
  rw [getD_lt z188 hi, getD_lt z249 (by omega : i < K.length)] at this
  simp only [Bool.and_eq_true, decide_eq_true_eq] at this
  exact this.1

theorem sAt_loop (a b c d : Int) (K : List S249) (B : List S188) (hl : B.length ≤ 1048576) (id : Int) (p : Nat) (hp : p < B.length) (hid : B[p].f0 = id) (hne : ∀ j (hj : j < p), (B[j]'(by omega)).f0 ≠ id) : ∀ n, n ≤ p → Ev (fun k => spec_l20At.l0 k id (n : Int) a b c d K B) (p : Int) := by
  refine down ?_ ?_
  · refine Ev.next (f := fun _ => some _) (Ev.now _) fun k => ?_
    simp only [spec_l20At.l0]; rw [if_pos (by omega), if_pos (by omega), rdB_nat B p hp, if_pos hid]
  · intro n hn ih
    refine Ev.next ih fun k => ?_
    simp only [spec_l20At.l0]; rw [if_pos (by omega), if_pos (by omega), rdB_nat B n (by omega), if_neg (hne n hn), wrap_succ (by omega)]

def treePickM (a b c d : Int) (K : List S249) (B : List S188) : Int × Int :=
  if treeM a b c d K B = true then (if pickM K < 0 then (-1, -1) else ((rd_T249 K (pickM K)).f0, fairPickM (rd_T188 B (pickM K)).f1.f0 (rd_T188 B (pickM K)).f1.f1.f0 (rd_T188 B (pickM K)).f1.f1.f1 (rd_T188 B (pickM K)).f1.f1.f2 (rd_T188 B (pickM K)).f1.f2)) else (-1, -1)

theorem sTreePick_ev (a b c d : Int) (K : List S249) (B : List S188) (hk : K.length ≤ 1048576) (hl : B.length ≤ 1048576) (hx : ∀ x ∈ B, x.f1.f2.length ≤ 1048576) : Ev (fun k => spec_TreePick.f k a b c d K B) (treePickM a b c d K B) := by
  have hj : Ev (fun k => spec_TreePick.j0 k true a b c d K B) (-1, -1) := Ev.next (f := fun _ => some (-1, -1)) (Ev.now _) fun k => by simp [spec_TreePick.j0]
  unfold spec_TreePick.f treePickM
  refine Ev.bind (sTree_ev a b c d K B hk hl hx) ?_
  cases ht : treeM a b c d K B with
  | false => simpa using hj
  | true =>
    obtain ⟨hf, hlen, hids⟩ := tree_at ht
    simp only [if_true]
    have hp : fairPickM a b c d K = if pickM K < 0 then -1 else (rd_T249 K (pickM K)).f0 := by unfold fairPickM; rw [if_pos hf]
    refine Ev.bind (sFairPick_ev a b c d K hk) ?_
    by_cases h : pickM K < 0
    · rw [hp]; simp only [if_pos h]; simpa using hj
    · have hb := pickM_bd K
      obtain ⟨p, hpe⟩ : ∃ p : Nat, pickM K = p := ⟨(pickM K).toNat, by omega⟩
      have hpl : p < K.length := by omega
      have hpb : p < B.length := by omega
      have hfa := fair_at hf hpl
      rw [hpe] at hp h
      rw [if_neg h, rdK_nat K p hpl] at hp
      rw [hp, hpe]
      simp only [decide_eq_false (show ¬ K[p].f0 < 0 by omega), if_neg h, rdK_nat K p hpl, rdB_nat B p hpb]
      refine Ev.next (f := fun k => (spec_FairPick.f k a b c d K).bind fun t165 => ((spec_l20At.f k a b c d K B t165).bind fun t166 => (if 0 ≤ t166 then (if t166 < (B.length : Int) then ((spec_FairPick.f k ((rd_T188 B t166).f1.f0) ((rd_T188 B t166).f1.f1.f0) ((rd_T188 B t166).f1.f1.f1) ((rd_T188 B t166).f1.f1.f2) ((rd_T188 B t166).f1.f2)).bind fun t168 => (some (t165, t168))) else (none)) else (none)))) ?_ fun k => by simp [spec_TreePick.j0]
      refine Ev.bind (sFairPick_ev a b c d K hk) ?_
      rw [hp]
      have hat : Ev (fun k => spec_l20At.f k a b c d K B K[p].f0) (p : Int) := by
        unfold spec_l20At.f
        exact sAt_loop a b c d K B hl K[p].f0 p hpb (hids p hpb) (fun j hj => by rw [hids j (by omega)]; have := hfa.2 j hj; omega) 0 (by omega)
      refine Ev.bind hat ?_
      simp only [if_pos (show (0 : Int) ≤ (p : Int) by omega), if_pos (show (p : Int) < (B.length : Int) by omega), rdB_nat B p hpb]
      exact Ev.bind (sFairPick_ev _ _ _ _ _ (hx _ (List.getElem_mem hpb))) (f := fun _ t168 => some (K[p].f0, t168)) (Ev.now _)

theorem iTreePick_ev (a b c d : Int) (K : List S249) (B : List S188) (hk : K.length ≤ 1048576) (hl : B.length ≤ 1048576) (hx : ∀ x ∈ B, x.f1.f2.length ≤ 1048576) : Ev (fun k => impl_TreePick.f k a b c d K B) (treePickM a b c d K B) := by
  have hj : Ev (fun k => impl_TreePick.j0 k true a b c d K B) (-1, -1) := Ev.next (f := fun _ => some (-1, -1)) (Ev.now _) fun k => by simp [impl_TreePick.j0]
  unfold impl_TreePick.f treePickM
  refine Ev.bind (iTree_ev a b c d K B hk hl hx) ?_
  cases ht : treeM a b c d K B with
  | false => simpa using hj
  | true =>
    obtain ⟨hf, hlen, hids⟩ := tree_at ht
    simp only [if_true]
    refine Ev.bind (iBusyAny_ev a b c d K hk) ?_
    have hbz := pickM_busy K
    by_cases h : pickM K < 0
    · have hany : K.any (fun x => x.f2) = false := by
        rw [← Bool.not_eq_true]; intro e; have := hbz.2 e; omega
      rw [hany]; simp only [if_pos h]; simpa using hj
    · have hb := pickM_bd K
      have hany : K.any (fun x => x.f2) = true := hbz.1 (by omega)
      obtain ⟨p, hpe⟩ : ∃ p : Nat, pickM K = p := ⟨(pickM K).toNat, by omega⟩
      have hpl : p < K.length := by omega
      have hpb : p < B.length := by omega
      rw [hany, hpe]
      rw [hpe] at h
      simp only [if_neg h, rdK_nat K p hpl, rdB_nat B p hpb]
      refine Ev.next (f := fun k => (impl_Fair_pick.f k a b c d K).bind fun t289 => (if 0 ≤ t289 then (if t289 < (B.length : Int) then ((impl_FairPick.f k ((rd_T188 B t289).f1.f0) ((rd_T188 B t289).f1.f1.f0) ((rd_T188 B t289).f1.f1.f1) ((rd_T188 B t289).f1.f1.f2) ((rd_T188 B t289).f1.f2)).bind fun t292 => (some ((rd_T188 B t289).f0, t292))) else (none)) else (none))) ?_ fun k => by simp [impl_TreePick.j0]
      refine Ev.bind (iPick_ev a b c d K hk) ?_
      rw [hpe]
      simp only [if_pos (show (0 : Int) ≤ (p : Int) by omega), if_pos (show (p : Int) < (B.length : Int) by omega), rdB_nat B p hpb]
      rw [hids p hpb]
      exact Ev.bind (iFairPick_ev _ _ _ _ _ (hx _ (List.getElem_mem hpb))) (f := fun _ t292 => some (K[p].f0, t292)) (Ev.now _)

theorem FnExactTreePick : laws_FnExactTreePick.Pure := by
  intro y0 hy0
  refine Ev.rounds ?_
  obtain ⟨s, hs, hd⟩ := szTree_ev y0 hy0
  unfold laws_FnExactTreePick.f
  refine Ev.bind hs ?_
  rcases hd with hd | hd
  · exact Ev.now' fun k => if_pos hd
  · by_cases hn : s < 0
    · exact Ev.now' fun k => if_pos hn
    · simp only [if_neg hn]
      have hT := toTree_ev y0 hd
      have h1 : (y0.f0.f2.map toK).length ≤ 1048576 := by simpa using hd.1
      have h2 : (y0.f1.map toB).length ≤ 1048576 := by simpa using hd.2.1
      have h3 := toB_len hd.2.2
      refine Ev.bind hT (Ev.bind (sTreePick_ev _ _ _ _ _ _ h1 h2 h3) (Ev.bind hT (Ev.bind (iTreePick_ev _ _ _ _ _ _ h1 h2 h3) ?_)))
      simp only [if_true, bne_self_eq_false]
      refine Ev.next (f := fun k => (laws_toTree.f k y0.f0.f0 y0.f0.f1.f0 y0.f0.f1.f1 y0.f0.f1.f2 y0.f0.f2 y0.f1).bind fun bt342 => ((laws_eqTree.f k y0.f0.f0 y0.f0.f1.f0 y0.f0.f1.f1 y0.f0.f1.f2 (y0.f0.f2.map toK) (y0.f1.map toB) bt342.1 bt342.2.1 bt342.2.2.1 bt342.2.2.2.1 bt342.2.2.2.2.1 bt342.2.2.2.2.2).bind fun t352 => (if t352 = true then (some true) else (some false)))) ?_ fun k => by simp [laws_FnExactTreePick.j0]
      refine Ev.bind hT (Ev.bind (eqTree_ev _ _ _ _ _ _ h1 h2 h3) ?_)
      exact Ev.now' fun k => by simp

end Go.Proofs.Ytaifcchkflcbhaa.Pure
