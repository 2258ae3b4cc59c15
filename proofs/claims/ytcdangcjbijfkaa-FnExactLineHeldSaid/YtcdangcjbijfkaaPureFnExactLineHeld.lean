/- The program's LineHeld returns what the reference's LineHeld returns, for every line (lines of which the law's own count speaks: any other answers true at once). No condition. -/
import Derived.Test.YtcdangcjbijfkaaPFnExactLineHeldx5
namespace Go.Proofs.Ytcdangcjbijfkaa.Pure
open Go.RowKit Go.Proofs.Ytcdangcjbijfkaa.PFnExactLineHeld Go.Proofs.YtcdangcjbijfkaaW.PrintWords Go.Proofs.YtcdangcjbijfkaaW.PrintLast Go.Proofs.YtcdangcjbijfkaaW.PrintMore Go.Proofs.YtcdangcjbijfkaaV
set_option linter.unusedVariables false
set_option linter.unusedSimpArgs false

theorem down {N : Nat} {P : Nat → Prop} (h0 : P N) (hs : ∀ n, n < N → P (n + 1) → P n) : ∀ n, n ≤ N → P n := by
  intro n hn
  obtain ⟨d, rfl⟩ : ∃ d, N = n + d := ⟨N - n, by omega⟩
  clear hn
  induction d generalizing n with
  | zero => exact h0
  | succ d ih => exact hs n (by omega) (ih (n + 1) (by rw [show n + 1 + d = n + (d + 1) by omega]; exact h0) (fun m hm hp => hs m (by omega) hp))

theorem wrap_id {x : Int} (h1 : -9223372036854775808 ≤ x) (h2 : x ≤ 9223372036854775807) : wrap64 x = x := by
  unfold wrap64; omega

theorem wrap_succ {n : Nat} (h : n < 4611686018427387904) : wrap64 ((n : Int) + 1) = ((n + 1 : Nat) : Int) := by
  rw [wrap_id (by omega) (by omega)]; omega

theorem wrap_pred {n : Nat} (h0 : 0 < n) (h : n < 4611686018427387904) : wrap64 ((n : Int) - 1) = ((n - 1 : Nat) : Int) := by
  rw [wrap_id (by omega) (by omega)]; omega

theorem getD_lt {α : Type} {l : List α} {n : Nat} (d : α) (h : n < l.length) : l.getD n d = l[n] := by
  rw [List.getD_eq_getElem?_getD, List.getElem?_eq_getElem h]; rfl

theorem rd_nat (l : List Int) (n : Nat) : rd l (n : Int) = l.getD n 0 := by
  unfold rd; simp

theorem Ev.now' {α : Type} {g : Nat → Option α} {r : α} (h : ∀ k, g k = some r) : Ev g r := ⟨0, fun k _ => h k⟩

/-- One round, and what follows. -/
theorem Ev.next {α : Type} {g f : Nat → Option α} {r : α} (k : Ev f r) (h : ∀ k, g (k + 1) = f k) : Ev g r := Ev.step h k

theorem Ev.to {α : Type} {g : Nat → Option α} {r q : α} (h : Ev g r) (e : r = q) : Ev g q := e ▸ h

theorem list_drop_cons {α : Type} {l : List α} {n : Nat} (h : n < l.length) : l.drop n = l[n] :: l.drop (n + 1) := List.drop_eq_getElem_cons h

theorem mem_drop {α : Type} {l : List α} {n : Nat} (h : n < l.length) {x : α} : x ∈ l.drop n ↔ x = l[n] ∨ x ∈ l.drop (n + 1) := by
  rw [List.drop_eq_getElem_cons h, List.mem_cons]

theorem any_drop {α : Type} {l : List α} {n : Nat} (h : n < l.length) (q : α → Bool) : (l.drop n).any q = (q l[n] || (l.drop (n + 1)).any q) := by
  rw [List.drop_eq_getElem_cons h, List.any_cons]

theorem all_drop {α : Type} {l : List α} {n : Nat} (h : n < l.length) (q : α → Bool) : (l.drop n).all q = (q l[n] && (l.drop (n + 1)).all q) := by
  rw [List.drop_eq_getElem_cons h, List.all_cons]

theorem dec_false {p : Prop} [Decidable p] (h : ¬ p) : false = decide p := (decide_eq_false h).symm
theorem dec_true {p : Prop} [Decidable p] (h : p) : true = decide p := (decide_eq_true h).symm
theorem dec_iff {p q : Prop} [Decidable p] [Decidable q] (h : p ↔ q) : decide p = decide q := decide_eq_decide.2 h

def toJ (x : S46) : S42 := ⟨x.f0, ⟨x.f1.f0, x.f1.f1, x.f1.f2⟩⟩
theorem rdLJ_nat (l : List S46) (n : Nat) (h : n < l.length) : rd_T46 l (n : Int) = l[n] := by
  unfold rd_T46; rw [Int.toNat_natCast, getD_lt _ h]
theorem rdJ_nat (l : List S42) (n : Nat) (h : n < l.length) : rd_T42 l (n : Int) = l[n] := by
  unfold rd_T42; rw [Int.toNat_natCast, getD_lt _ h]

theorem szJobs_eq (l : List S46) (a : Int) (hl : l.length ≤ maxLen) (h0 : 0 ≤ a) (h1 : a ≤ 1048576) : laws_szJobS.f l a = some (if a < l.length then -1 else a - l.length) := by
  have hm : maxLen = 9223372036854775807 := rfl
  unfold laws_szJobS.f
  rw [wrap_id (by omega) (by omega)]
  by_cases h : a < l.length
  · rw [if_pos (by omega), if_pos h]
  · rw [if_neg (by omega), if_neg h]

theorem szLine_eq (a0 : Int) (A B C : List S46) (hA : A.length ≤ maxLen) (hB : B.length ≤ maxLen) (hC : C.length ≤ maxLen) :
    ∃ s, laws_szLine.f a0 A B C 1048576 = some s ∧ (s < 0 ∨ A.length + B.length + C.length ≤ 1048576) := by
  unfold laws_szLine.f
  rw [szJobs_eq A _ hA (by omega) (by omega), Option.bind_some]
  by_cases h1 : (1048576 : Int) < A.length
  · rw [if_pos h1, if_pos (by omega)]; exact ⟨_, rfl, .inl (by omega)⟩
  · rw [if_neg h1, if_neg (by omega), szJobs_eq B _ hB (by omega) (by omega), Option.bind_some]
    by_cases h2 : (1048576 : Int) - A.length < B.length
    · rw [if_pos h2, if_pos (by omega)]; exact ⟨_, rfl, .inl (by omega)⟩
    · rw [if_neg h2, if_neg (by omega), szJobs_eq C _ hC (by omega) (by omega), Option.bind_some]
      by_cases h3 : (1048576 : Int) - A.length - B.length < C.length
      · rw [if_pos h3, if_pos (by omega)]; exact ⟨_, rfl, .inl (by omega)⟩
      · rw [if_neg h3, if_neg (by omega)]; exact ⟨_, rfl, .inr (by omega)⟩

theorem toJobs_loop (l : List S46) (hl : l.length ≤ 1048576) : ∀ n, n ≤ l.length → ∀ acc : List S42, acc.length = l.length → acc.take n = (l.take n).map toJ → Ev (fun k => laws_toJobS.l0 k l acc (n : Int)) (l.map toJ) := by
  refine down ?_ ?_
  · intro acc ha ht
    have e : acc = l.map toJ := by rw [List.take_of_length_le (by omega), List.take_of_length_le (by omega)] at ht; exact ht
    subst e
    refine Ev.next (f := fun _ => some (l.map toJ)) (Ev.now _) fun k => ?_
    simp only [laws_toJobS.l0]; rw [if_neg (by omega)]
  · intro n hn ih acc ha ht
    refine Ev.next (ih (acc.set n (toJ l[n])) (by simpa using ha) ?_) fun k => ?_
    · rw [List.take_set, List.take_add_one, List.take_add_one, ht, List.getElem?_eq_getElem hn, List.getElem?_eq_getElem (by omega)]
      have hl' : ((l.take n).map toJ).length = n := by rw [List.length_map, List.length_take]; omega
      simp only [Option.toList_some]
      rw [List.set_append_right _ _ (by omega), hl', List.map_append]
      simp
    · have hj : laws_toJob.f l[n].f0 l[n].f1.f0 l[n].f1.f1 l[n].f1.f2 = some (l[n].f0, l[n].f1.f0, l[n].f1.f1, l[n].f1.f2) := rfl
      simp only [laws_toJobS.l0]
      rw [if_pos (by omega), if_pos (by omega), rdLJ_nat l n hn, hj]
      simp only [Option.bind_some]
      rw [if_pos (by omega), wrap_succ (by omega), Int.toNat_natCast]; rfl

theorem toJobs_ev (l : List S46) (hl : l.length ≤ 1048576) : Ev (fun k => laws_toJobS.f k l) (l.map toJ) := by
  refine Ev.congr (fun k => ?_) (toJobs_loop l (by omega) 0 (by omega) (List.replicate l.length z42) (by simp) (by simp))
  unfold laws_toJobS.f
  rw [if_pos (by omega), if_pos (by omega)]
  simp

theorem toLine_ev (a0 : Int) (A B C : List S46) (h : A.length + B.length + C.length ≤ 1048576) : Ev (fun k => laws_toLine.f k a0 A B C) (a0, A.map toJ, B.map toJ, C.map toJ) := by
  unfold laws_toLine.f
  exact Ev.bind (toJobs_ev A (by omega)) (Ev.bind (toJobs_ev B (by omega)) (Ev.bind (toJobs_ev C (by omega)) (f := fun _ t => some (a0, A.map toJ, B.map toJ, t)) (Ev.now _)))

theorem eqJob_eq (a b c d : Int) : laws_eqJob.f a b c d a b c d = some true := by
  unfold laws_eqJob.f laws_eqVec.f
  rw [if_pos rfl, if_pos rfl, if_pos rfl, if_pos rfl]; rfl
theorem eqJobs_loop (l : List S42) (hl : l.length ≤ 1048576) : ∀ n, n ≤ l.length → Ev (fun k => laws_eqJobS.l0 k l l (n : Int)) true := by
  refine down ?_ ?_
  · refine Ev.next (f := fun _ => some true) (Ev.now true) fun k => ?_
    simp only [laws_eqJobS.l0]; rw [if_neg (by omega)]
  · intro n hn ih
    refine Ev.next ih fun k => ?_
    simp only [laws_eqJobS.l0]
    rw [if_pos (by omega), if_pos (by omega), if_pos (by omega), eqJob_eq, Option.bind_some, if_pos rfl, wrap_succ (by omega)]
theorem eqJobs_ev (l : List S42) (hl : l.length ≤ 1048576) : Ev (fun k => laws_eqJobS.f k l l) true := by
  refine Ev.congr (fun k => ?_) (eqJobs_loop l hl 0 (by omega))
  unfold laws_eqJobS.f
  rw [if_pos rfl]; rfl
theorem eqLine_ev (a0 : Int) (A B C : List S42) (h : A.length + B.length + C.length ≤ 1048576) : Ev (fun k => laws_eqLine.f k a0 A B C a0 A B C) true := by
  unfold laws_eqLine.f
  simp only [if_true]
  refine Ev.bind (eqJobs_ev A (by omega)) ?_
  simp only [if_true]
  refine Ev.bind (eqJobs_ev B (by omega)) ?_
  simp only [if_true]
  exact Ev.bind (eqJobs_ev C (by omega)) (f := fun _ t => if t = true then some true else some false) (Ev.now' fun k => if_pos rfl)

theorem within_eq (a b c : Int) : impl_within.f a b c = some (decide (b ≤ a ∧ a ≤ c)) := by
  unfold impl_within.f
  by_cases h : a ≥ b
  · rw [if_pos h]; congr 1; simp; omega
  · rw [if_neg h]; congr 1; simp; omega

theorem grow_eqJ (n : Int) (h0 : 0 ≤ n) (h1 : n ≤ 1048576) : slices_Grow_impl_Job_impl_Job.f n = some [] := by
  have e : wrap64 n = n := wrap_id (by omega) (by omega)
  unfold slices_Grow_impl_Job_impl_Job.f
  rw [if_neg (by omega), e]
  by_cases h : n > 0
  · rw [if_pos h, if_pos h0, if_pos (by simp; omega)]
    simp
  · rw [if_neg h]

def sumLenJ (LL : List (List S42)) : Nat := LL.flatten.length
theorem rdL_natJ (LL : List (List S42)) (n : Nat) (h : n < LL.length) : rd_L5 LL (n : Int) = LL[n] := by
  unfold rd_L5; rw [Int.toNat_natCast, getD_lt _ h]
theorem flat_dropJ {LL : List (List S42)} {n : Nat} (h : n < LL.length) : (LL.drop n).flatten = LL[n] ++ (LL.drop (n + 1)).flatten := by
  rw [List.drop_eq_getElem_cons h, List.flatten_cons]

theorem concat_l1J (LL : List (List S42)) (hl : LL.length ≤ 1048576) (hs : LL.flatten.length ≤ 1048576) : ∀ n, n ≤ LL.length → ∀ acc : List S42, acc.length + (LL.drop n).flatten.length ≤ 1048576 → Ev (fun k => slices_Concat_impl_Job_impl_Job.l1 k acc LL (LL.length : Int) (n : Int)) (acc ++ (LL.drop n).flatten) := by
  refine down ?_ ?_
  · intro acc ha
    refine Ev.to (Ev.next (f := fun _ => some acc) (Ev.now _) fun k => ?_) (by simp)
    simp only [slices_Concat_impl_Job_impl_Job.l1]; rw [if_neg (by omega)]
  · intro n hn ih acc ha
    rw [flat_dropJ hn] at ha ⊢
    rw [List.length_append] at ha
    refine Ev.to (Ev.next (ih (acc ++ LL[n]) (by rw [List.length_append]; omega)) fun k => ?_) (by simp)
    simp only [slices_Concat_impl_Job_impl_Job.l1]
    rw [if_pos (by omega), if_pos (by omega), if_pos (by omega), rdL_natJ LL n hn, if_pos (by omega), wrap_succ (by omega)]

theorem concat_l0J (LL : List (List S42)) (hl : LL.length ≤ 1048576) (hs : LL.flatten.length ≤ 1048576) : ∀ n, n ≤ LL.length → ∀ s : Nat, s + (LL.drop n).flatten.length ≤ 1048576 → Ev (fun k => slices_Concat_impl_Job_impl_Job.l0 k LL (s : Int) LL (LL.length : Int) (n : Int)) LL.flatten := by
  refine down ?_ ?_
  · intro s hs'
    refine Ev.to (Ev.next (concat_l1J LL hl hs 0 (by omega) [] (by simpa using hs)) fun k => ?_) (by simp)
    simp only [slices_Concat_impl_Job_impl_Job.l0]; rw [if_neg (by omega), grow_eqJ _ (by omega) (by omega)]; rfl
  · intro n hn ih s hs'
    rw [flat_dropJ hn, List.length_append] at hs'
    refine Ev.next (ih (s + LL[n].length) (by omega)) fun k => ?_
    simp only [slices_Concat_impl_Job_impl_Job.l0]
    rw [if_pos (by omega), if_pos (by omega), if_pos (by omega), rdL_natJ LL n hn, wrap_id (by omega) (by omega), if_neg (by omega), wrap_succ (by omega), show (s : Int) + (LL[n].length : Int) = ((s + LL[n].length : Nat) : Int) by omega]

theorem concat_evJ (LL : List (List S42)) (hl : LL.length ≤ 1048576) (hs : LL.flatten.length ≤ 1048576) : Ev (fun k => slices_Concat_impl_Job_impl_Job.f k LL) LL.flatten := by
  have := concat_l0J LL hl hs 0 (by omega) 0 (by simpa using hs)
  exact Ev.congr (fun k => by unfold slices_Concat_impl_Job_impl_Job.f; rfl) this

/-- What a job in this lane has to be (so many stages are over). -/
def okJ (z : Nat) (x : S42) : Prop := (0 ≤ x.f0 ∧ x.f0 ≤ 1000000000000) ∧ (if z = 0 then 1 ≤ x.f1.f0 ∧ x.f1.f0 ≤ 1000 else x.f1.f0 = 0) ∧ (if z = 2 then x.f1.f1 = 0 else 1 ≤ x.f1.f1 ∧ x.f1.f1 ≤ 1000) ∧ 1 ≤ x.f1.f2 ∧ x.f1.f2 ≤ 1000
instance okJ_dec (z : Nat) (x : S42) : Decidable (okJ z x) := by unfold okJ; exact inferInstance
def idsJ (l : List S42) : List Int := l.map (·.f0)
/-- The two lists' jobs from a place on. -/
def fromJ (R : Nat → S42 → Prop) (l : List S42) (n : Nat) : Prop := ∀ m, n ≤ m → ∀ h : m < l.length, R m l[m] ∧ l[m].f0 ∉ idsJ (l.take m)
theorem fromJ_end (R : Nat → S42 → Prop) (l : List S42) : fromJ R l l.length := fun m h1 h2 => by omega
theorem fromJ_step {R : Nat → S42 → Prop} {l : List S42} {n : Nat} (hn : n < l.length) : fromJ R l n ↔ (R n l[n] ∧ l[n].f0 ∉ idsJ (l.take n)) ∧ fromJ R l (n + 1) := by
  constructor
  · exact fun h => ⟨h n (Nat.le_refl _) hn, fun m hm hl => h m (by omega) hl⟩
  · rintro ⟨h1, h2⟩ m hm hl
    by_cases e : m = n
    · subst e; exact h1
    · exact h2 m (by omega) hl
theorem nodup_from {l : List S42} : (∀ m, ∀ h : m < l.length, l[m].f0 ∉ idsJ (l.take m)) ↔ (idsJ l).Nodup := by
  unfold idsJ
  constructor
  · intro h
    rw [List.nodup_iff_pairwise_ne, List.pairwise_iff_getElem]
    intro i j hi hj hij e
    rw [List.length_map] at hi hj
    refine h j hj ?_
    rw [List.getElem_map, List.getElem_map] at e
    rw [← e]
    exact List.mem_map.2 ⟨l[i], List.mem_take_iff_getElem.2 ⟨i, by omega, rfl⟩, rfl⟩
  · intro h m hm hin
    obtain ⟨x, hx, ex⟩ := List.mem_map.1 hin
    obtain ⟨i, hi, rfl⟩ := List.mem_take_iff_getElem.1 hx
    rw [List.nodup_iff_pairwise_ne, List.pairwise_iff_getElem] at h
    have := h i m (by rw [List.length_map]; omega) (by rw [List.length_map]; omega) (by omega)
    rw [List.getElem_map, List.getElem_map] at this
    exact this ex
theorem lanes {X Y Z : List S42} {R : Nat → S42 → Prop} {a b c : Nat} :
    (∀ m, ∀ h : m < (X ++ Y ++ Z).length, R (if m < X.length then a else if m < X.length + Y.length then b else c) (X ++ Y ++ Z)[m]) ↔ (∀ x ∈ X, R a x) ∧ (∀ x ∈ Y, R b x) ∧ ∀ x ∈ Z, R c x := by
  constructor
  · intro h
    refine ⟨fun x hx => ?_, fun x hx => ?_, fun x hx => ?_⟩
    · obtain ⟨i, hi, rfl⟩ := List.getElem_of_mem hx
      have := h i (by simp only [List.length_append]; omega)
      rw [if_pos hi, List.getElem_append_left (by simp only [List.length_append]; omega), List.getElem_append_left hi] at this
      exact this
    · obtain ⟨i, hi, rfl⟩ := List.getElem_of_mem hx
      have := h (X.length + i) (by simp only [List.length_append]; omega)
      rw [if_neg (by omega), if_pos (by omega), List.getElem_append_left (by simp only [List.length_append]; omega), List.getElem_append_right (by omega)] at this
      simpa using this
    · obtain ⟨i, hi, rfl⟩ := List.getElem_of_mem hx
      have := h (X.length + Y.length + i) (by simp only [List.length_append]; omega)
      rw [if_neg (by omega), if_neg (by omega), List.getElem_append_right (by simp only [List.length_append]; omega)] at this
      simpa using this
  · rintro ⟨h1, h2, h3⟩ m hm
    simp only [List.length_append] at hm
    by_cases c1 : m < X.length
    · rw [if_pos c1, List.getElem_append_left (by simp only [List.length_append]; omega), List.getElem_append_left c1]
      exact h1 _ (List.getElem_mem _)
    · rw [if_neg c1]
      by_cases c2 : m < X.length + Y.length
      · rw [if_pos c2, List.getElem_append_left (by simp only [List.length_append]; omega), List.getElem_append_right (by omega)]
        exact h2 _ (List.getElem_mem _)
      · rw [if_neg c2, List.getElem_append_right (by simp only [List.length_append]; omega)]
        exact h3 _ (List.getElem_mem _)
/-- What a line has to be. -/
def lineP (cap : Int) (A B C : List S42) : Prop := (1 ≤ cap ∧ cap ≤ 16) ∧ ((A.length + B.length + C.length : Nat) : Int) ≤ cap ∧ ((∀ x ∈ A, okJ 0 x) ∧ (∀ x ∈ B, okJ 1 x) ∧ ∀ x ∈ C, okJ 2 x) ∧ (idsJ (A ++ B ++ C)).Nodup
theorem fromJ_zero {X Y Z : List S42} {a b c : Nat} : fromJ (fun m => okJ (if m < X.length then a else if m < X.length + Y.length then b else c)) (X ++ Y ++ Z) 0 ↔ ((∀ x ∈ X, okJ a x) ∧ (∀ x ∈ Y, okJ b x) ∧ ∀ x ∈ Z, okJ c x) ∧ (idsJ (X ++ Y ++ Z)).Nodup := by
  unfold fromJ
  rw [← lanes (R := okJ), ← nodup_from]
  exact ⟨fun h => ⟨fun m hm => (h m (Nat.zero_le _) hm).1, fun m hm => (h m (Nat.zero_le _) hm).2⟩, fun h m _ hm => ⟨h.1 m hm, h.2 m hm⟩⟩

/-! The reference's. -/
theorem sAll_l (a0 : Int) (A B C : List S42) (h : A.length + B.length + C.length ≤ 1048576) : spec_l21All.f a0 A B C = some (C ++ B ++ A) := by
  unfold spec_l21All.f
  simp only [Option.bind_some, List.nil_append, List.length_append, List.length_nil]
  rw [if_pos (by omega), if_pos (by omega), if_pos (by omega)]
theorem sIn_loop (l : List S42) (hl : l.length ≤ 1048576) (a0 : Int) (A B C : List S42) (n : Nat) (hn : n < l.length) {w : Bool} (hw : Ev (fun k => spec_LineOk.l1 k l (n : Int) (n : Int) a0 A B C) w) :
    ∀ m, m ≤ n → (∀ j, j < m → ∀ h : j < l.length, l[j].f0 ≠ l[n].f0) → ∃ b, Ev (fun k => spec_LineOk.l1 k l (n : Int) (m : Int) a0 A B C) b ∧ (b = true ↔ l[n].f0 ∉ idsJ (l.take n) ∧ w = true) := by
  refine down ?_ ?_
  · intro hd
    refine ⟨w, hw, ⟨fun h => ⟨fun hin => ?_, h⟩, fun h => h.2⟩⟩
    obtain ⟨x, hx, ex⟩ := List.mem_map.1 hin
    obtain ⟨i, hi, rfl⟩ := List.mem_take_iff_getElem.1 hx
    exact hd i (by omega) (by omega) ex
  · intro m hm ih hd
    have hml : m < l.length := by omega
    by_cases e : l[m].f0 = l[n].f0
    · refine ⟨false, Ev.next (f := fun _ => some false) (Ev.now _) fun k => ?_, by simp; intro h; exact absurd (List.mem_map.2 ⟨l[m], List.mem_take_iff_getElem.2 ⟨m, by omega, rfl⟩, e⟩) h⟩
      simp only [spec_LineOk.l1]
      rw [if_pos (by omega), if_pos (by omega), if_pos (by omega), if_pos (by omega), if_pos (by omega), rdJ_nat l m hml, rdJ_nat l n hn, if_pos e]
    · obtain ⟨b, hb, hiff⟩ := ih (fun j hj h => by
        by_cases c : j = m
        · subst c; exact e
        · exact hd j (by omega) h)
      refine ⟨b, Ev.next hb fun k => ?_, hiff⟩
      simp only [spec_LineOk.l1]
      rw [if_pos (by omega), if_pos (by omega), if_pos (by omega), if_pos (by omega), if_pos (by omega), rdJ_nat l m hml, rdJ_nat l n hn, if_neg e, wrap_succ (by omega)]
theorem sJ5_ev (l : List S42) (n : Nat) (hn : n < 1048576) (z : Int) (a0 : Int) (A B C : List S42) (t : Bool) (x y w : Int) {b : Bool} (hb : Ev (fun k => spec_LineOk.l0 k l ((n + 1 : Nat) : Int) a0 A B C) b) :
    Ev (fun k => spec_LineOk.j5 k l (n : Int) z t a0 A B C x y w) (!t && decide ((if z = 2 then y = 0 else True) ∧ (if z < 2 then 1 ≤ y ∧ y ≤ 1000 else True) ∧ 1 ≤ w ∧ w ≤ 1000) && b) := by
  have hs : wrap64 ((n : Int) + 1) = ((n + 1 : Nat) : Int) := wrap_succ (by omega)
  cases t with
  | true => exact Ev.next (f := fun _ => some false) (Ev.now _) fun k => by simp [spec_LineOk.j5]
  | false =>
    by_cases h : (if z = 2 then y = 0 else True) ∧ (if z < 2 then 1 ≤ y ∧ y ≤ 1000 else True) ∧ 1 ≤ w ∧ w ≤ 1000
    · rw [decide_eq_true h]
      refine Ev.to (Ev.next hb fun k => ?_) (by simp)
      simp only [spec_LineOk.j5, hs]
      obtain ⟨h1, h2, h3, h4⟩ := h
      rw [if_neg (show ¬ (false = true) by decide)]
      repeat' split
      all_goals first | rfl | (exfalso; simp_all; done) | (exfalso; simp_all; omega)
    · rw [decide_eq_false h]
      refine Ev.to (Ev.next (f := fun _ => some false) (Ev.now _) fun k => ?_) (by simp)
      simp only [spec_LineOk.j5, hs]
      rw [if_neg (show ¬ (false = true) by decide)]
      repeat' split
      all_goals first | rfl | (exfalso; apply h; simp_all; done) | (exfalso; apply h; simp_all; omega)
theorem sJ4_ev (l : List S42) (n : Nat) (hn : n < 1048576) (z : Nat) (hz : z ≤ 2) (a0 : Int) (A B C : List S42) (x y w : Int) {b : Bool} (hb : Ev (fun k => spec_LineOk.l0 k l ((n + 1 : Nat) : Int) a0 A B C) b) :
    Ev (fun k => spec_LineOk.j4 k l (n : Int) (z : Int) a0 A B C x y w) (decide ((if z = 0 then 1 ≤ x ∧ x ≤ 1000 else x = 0) ∧ (if z = 2 then y = 0 else 1 ≤ y ∧ y ≤ 1000) ∧ 1 ≤ w ∧ w ≤ 1000) && b) := by
  have h5 := fun t => sJ5_ev l n hn (z : Int) a0 A B C t x y w hb
  have key : ∀ t : Bool, (t = true ↔ ¬ (if z = 0 then 1 ≤ x ∧ x ≤ 1000 else x = 0)) → (!t && decide ((if (z : Int) = 2 then y = 0 else True) ∧ (if (z : Int) < 2 then 1 ≤ y ∧ y ≤ 1000 else True) ∧ 1 ≤ w ∧ w ≤ 1000) && b) = (decide ((if z = 0 then 1 ≤ x ∧ x ≤ 1000 else x = 0) ∧ (if z = 2 then y = 0 else 1 ≤ y ∧ y ≤ 1000) ∧ 1 ≤ w ∧ w ≤ 1000) && b) := by
    intro t ht
    congr 1
    rw [show (!t) = decide (if z = 0 then 1 ≤ x ∧ x ≤ 1000 else x = 0) by
      cases t with
      | true => exact (decide_eq_false (ht.1 rfl)).symm
      | false => exact (decide_eq_true (by
          refine Classical.byContradiction fun hc => ?_
          exact absurd (ht.2 hc) (by decide))).symm, ← Bool.decide_and]
    refine dec_iff (and_congr_right fun _ => ?_)
    obtain rfl | rfl | rfl : z = 0 ∨ z = 1 ∨ z = 2 := by omega
    · simp
    · simp
    · simp
  by_cases h0 : z = 0
  · subst h0
    by_cases h1 : x < 1
    · refine Ev.to (Ev.next (h5 true) fun k => ?_) (key true (by simp; omega))
      simp only [spec_LineOk.j4]
      rw [if_neg (by simp), if_pos (by simp), if_pos h1]
    · refine Ev.to (Ev.next (h5 (decide (x > 1000))) fun k => ?_) (key _ (by simp; omega))
      simp only [spec_LineOk.j4]
      rw [if_neg (by simp), if_pos (by simp), if_neg h1]
  · by_cases h1 : x = 0
    · refine Ev.to (Ev.next (h5 false) fun k => ?_) (key false (by simp [h0, h1]))
      simp only [spec_LineOk.j4]
      rw [if_pos (by omega), if_pos h1, if_neg (by omega)]
    · refine Ev.to (Ev.next (h5 true) fun k => ?_) (key true (by simp [h0, h1]))
      simp only [spec_LineOk.j4]
      rw [if_pos (by omega), if_neg h1]
theorem sLine_loop (l : List S42) (hl : l.length ≤ 1048576) (a0 : Int) (A B C : List S42) (hs : A.length + B.length + C.length ≤ 1048576) : ∀ n, n ≤ l.length → ∃ b, Ev (fun k => spec_LineOk.l0 k l (n : Int) a0 A B C) b ∧
    (b = true ↔ fromJ (fun m => okJ (if m < C.length then 2 else if m < C.length + B.length then 1 else 0)) l n) := by
  refine down ?_ ?_
  · refine ⟨true, Ev.next (f := fun _ => some true) (Ev.now true) fun k => ?_, by simp [fromJ_end]⟩
    simp only [spec_LineOk.l0]; rw [if_neg (by omega)]
  · rintro n hn ⟨b, hb, hiff⟩
    rw [fromJ_step hn]
    have hz : (if n < C.length then 2 else if n < C.length + B.length then 1 else 0) ≤ 2 := by
      by_cases c1 : n < C.length
      · rw [if_pos c1]; exact Nat.le_refl 2
      · rw [if_neg c1]; by_cases c2 : n < C.length + B.length
        · rw [if_pos c2]; decide
        · rw [if_neg c2]; decide
    have h4 := sJ4_ev l n (by omega) (if n < C.length then 2 else if n < C.length + B.length then 1 else 0) hz a0 A B C l[n].f1.f0 l[n].f1.f1 l[n].f1.f2 hb
    have h1 : Ev (fun k => spec_LineOk.l1 k l (n : Int) (n : Int) a0 A B C) _ := Ev.next h4 fun k => by
      simp only [spec_LineOk.l1]
      rw [if_neg (by omega), if_pos (by omega), if_pos (by omega), rdJ_nat l n hn]
      by_cases c1 : n < C.length
      · rw [if_pos (by omega), if_pos c1]; rfl
      · rw [if_neg (by omega), if_neg c1, wrap_id (by omega) (by omega)]
        by_cases c2 : n < C.length + B.length
        · rw [if_pos (by omega), if_pos c2]; rfl
        · rw [if_neg (by omega), if_neg c2]; rfl
    obtain ⟨b1, hb1, hiff1⟩ := sIn_loop l hl a0 A B C n hn h1 0 (by omega) (by simp)
    have hj2 : ∀ t, Ev (fun k => spec_LineOk.j2 k l (n : Int) t a0 A B C) (!t && b1) := by
      intro t
      cases t with
      | true => exact Ev.next (f := fun _ => some false) (Ev.now _) fun k => by simp [spec_LineOk.j2]
      | false => exact Ev.to (Ev.next hb1 fun k => by simp [spec_LineOk.j2]) (by simp)
    by_cases c0 : l[n].f0 < 0
    · refine ⟨_, Ev.next (hj2 true) fun k => ?_, ?_⟩
      · simp only [spec_LineOk.l0]
        rw [if_pos (by omega), if_pos (by omega), rdJ_nat l n hn, if_pos c0]
      · simp [okJ]; intros; omega
    · refine ⟨_, Ev.next (hj2 (decide (l[n].f0 > 1000000000000))) fun k => ?_, ?_⟩
      · simp only [spec_LineOk.l0]
        rw [if_pos (by omega), if_pos (by omega), rdJ_nat l n hn, if_neg c0]
      · rw [Bool.and_eq_true, hiff1, Bool.and_eq_true, decide_eq_true_eq, hiff, Bool.not_eq_true', decide_eq_false_iff_not]
        unfold okJ
        constructor
        · rintro ⟨h1, h2, h3, h4⟩; exact ⟨⟨⟨⟨by omega, by omega⟩, h3⟩, h2⟩, h4⟩
        · rintro ⟨⟨⟨h1, h3⟩, h2⟩, h4⟩; exact ⟨by omega, h2, h3, h4⟩
theorem sLine_ev (a0 : Int) (A B C : List S42) (h : A.length + B.length + C.length ≤ 1048576) : ∃ b, Ev (fun k => spec_LineOk.f k a0 A B C) b ∧ (b = true ↔ lineP a0 A B C) := by
  obtain ⟨b, hb, hiff⟩ := sLine_loop (C ++ B ++ A) (by simp only [List.length_append]; omega) a0 A B C h 0 (by omega)
  rw [fromJ_zero] at hiff
  have hP : (idsJ (C ++ B ++ A)).Nodup ↔ (idsJ (A ++ B ++ C)).Nodup := by
    refine List.Perm.nodup_iff (List.Perm.map _ ?_)
    rw [List.append_assoc]
    refine List.perm_append_comm.trans (List.Perm.append_right _ List.perm_append_comm)
  have hj : ∀ t : Bool, Ev (fun k => spec_LineOk.j0 k t a0 A B C) (!t && decide (((A.length + B.length + C.length : Nat) : Int) ≤ a0) && b) := by
    intro t
    cases t with
    | true => exact Ev.next (f := fun _ => some false) (Ev.now _) fun k => by simp [spec_LineOk.j0]
    | false =>
      by_cases c : ((A.length + B.length + C.length : Nat) : Int) ≤ a0
      · rw [decide_eq_true c]
        refine Ev.to (Ev.next hb fun k => ?_) (by simp)
        simp only [spec_LineOk.j0]
        rw [if_neg (by decide), sAll_l a0 A B C h, Option.bind_some, if_neg (by simp only [List.length_append]; omega)]; rfl
      · rw [decide_eq_false c]
        refine Ev.to (Ev.next (f := fun _ => some false) (Ev.now _) fun k => ?_) (by simp)
        simp only [spec_LineOk.j0]
        rw [if_neg (by decide), sAll_l a0 A B C h, Option.bind_some, if_pos (by simp only [List.length_append]; omega)]
  unfold spec_LineOk.f lineP
  by_cases c1 : a0 < 1
  · simp only [if_pos c1]; exact ⟨_, hj true, by simp; omega⟩
  · simp only [if_neg c1]
    by_cases c2 : a0 > 16
    · simp only [if_pos c2]; exact ⟨_, hj true, by simp; omega⟩
    · simp only [if_neg c2]
      by_cases c3 : (A.length : Int) > a0
      · simp only [if_pos c3]; exact ⟨_, hj true, by simp; omega⟩
      · simp only [if_neg c3]
        by_cases c4 : (B.length : Int) > a0
        · simp only [if_pos c4]; exact ⟨_, hj true, by simp; omega⟩
        · simp only [if_neg c4]
          refine ⟨_, hj _, ?_⟩
          rw [Bool.and_eq_true, Bool.and_eq_true, hiff, decide_eq_true_eq, Bool.not_eq_true', decide_eq_false_iff_not, hP]
          constructor
          · rintro ⟨⟨h1, h2⟩, ⟨h3, h4, h5⟩, h6⟩; exact ⟨⟨by omega, by omega⟩, h2, ⟨h5, h4, h3⟩, h6⟩
          · rintro ⟨h1, h2, ⟨h3, h4, h5⟩, h6⟩; exact ⟨⟨by omega, h2⟩, ⟨h5, h4, h3⟩, h6⟩

/-! The program's. -/
theorem jobs_ev (a0 : Int) (A B C : List S42) (h : A.length + B.length + C.length ≤ 1048576) : Ev (fun k => impl_Line_jobs.f k a0 A B C) (A ++ B ++ C) := by
  unfold impl_Line_jobs.f
  exact Ev.to (Ev.bind (concat_evJ [A, B, C] (by simp) (by simp; omega)) (f := fun _ t => some t) (Ev.now _)) (by simp)
theorem costOk_eq (a b c : Int) : impl_CostOk.f a b c = some (decide ((1 ≤ a ∧ a ≤ 1000) ∧ (1 ≤ b ∧ b ≤ 1000) ∧ (1 ≤ c ∧ c ≤ 1000))) := by
  have hv : impl_Vec_isFrom.f a b c 1 1000 = some (decide ((1 ≤ a ∧ a ≤ 1000) ∧ (1 ≤ b ∧ b ≤ 1000) ∧ (1 ≤ c ∧ c ≤ 1000))) := by
    unfold impl_Vec_isFrom.f
    simp only [within_eq, Option.bind_some, decide_eq_true_eq]
    repeat' split
    all_goals (congr 1; first | exact dec_iff (by omega) | exact dec_false (by omega) | exact dec_true (by omega))
  unfold impl_CostOk.f
  rw [hv]; rfl
theorem isNeed_eq (a : Int) : impl_isNeed.f a = some (decide (1 ≤ a ∧ a ≤ 1000)) := by
  unfold impl_isNeed.f; rw [within_eq]; rfl
theorem mfind_true (x : Int) : ∀ (l : List Int) (i : Nat), mfind (l.map fun y => (y, true)) x i = none ↔ x ∉ l
  | [], i => by simp [mfind]
  | y :: r, i => by
    simp only [List.map_cons, mfind, List.mem_cons, not_or]
    by_cases h : x = y
    · rw [if_pos h]; simp [h]
    · rw [if_neg h, mfind_true x r]; simp [h]
theorem mlook_true (x : Int) (l : List Int) : mlook false (l.map fun y => (y, true)) x = true ↔ x ∈ l := by
  unfold mlook
  cases h : mfind (l.map fun y => (y, true)) x 0 with
  | none => rw [mfind_true] at h; simp [h]
  | some z =>
    obtain ⟨q, h1, h2⟩ := mfind_at x _ 0 z.1 z.2 h
    have hm := List.mem_of_getElem? h2
    obtain ⟨y, hy, e⟩ := List.mem_map.1 hm
    injection e with e1 e2
    subst e1
    simp [← e2, hy]
theorem mput_true (x : Int) (l : List Int) (h : x ∉ l) : mput (l.map fun y => (y, true)) x true = (l ++ [x]).map fun y => (y, true) := by
  unfold mput
  rw [(mfind_true x l 0).2 h]
  simp
theorem iLine_step (l : List S42) (hl : l.length ≤ 1048576) (a0 : Int) (A B C : List S42) (hs : A.length + B.length + C.length ≤ 1048576) (n : Nat) (hn : n < l.length) (k : Nat) (M : List (Int × Bool)) :
    impl_LineOk.l0 (k + 1) l (l.length : Int) (n : Int) a0 A B C M = if okJ (if n < A.length then 0 else if n < A.length + B.length then 1 else 2) l[n] then (if mlook false M l[n].f0 = true then some false else impl_LineOk.l0 k l (l.length : Int) ((n + 1 : Nat) : Int) a0 A B C (mput M l[n].f0 true)) else some false := by
  simp only [impl_LineOk.l0]
  rw [if_pos (by omega), if_pos (by omega), if_pos (by omega), rdJ_nat l n hn, wrap_id (x := (A.length : Int) + B.length) (by omega) (by omega), wrap_succ (by omega)]
  simp only [costOk_eq, isNeed_eq, within_eq, Option.bind_some, decide_eq_true_eq]
  generalize impl_LineOk.l0 k l (l.length : Int) ((n + 1 : Nat) : Int) a0 A B C (mput M l[n].f0 true) = X
  generalize (if mlook false M l[n].f0 = true then some false else X) = Y
  generalize l[n] = q
  clear hs hl
  by_cases c1 : n < A.length
  · rw [if_neg (show ¬ ((n : Int) ≥ (A.length : Int) + B.length) by omega), if_neg (show ¬ ((n : Int) ≥ (A.length : Int)) by omega), if_pos c1]
    by_cases hok : okJ 0 q
    · have hok' := hok
      unfold okJ at hok'
      rw [if_pos rfl, if_neg (by decide)] at hok'
      rw [if_pos hok, if_pos hok'.2, if_pos hok'.1]
    · rw [if_neg hok]
      unfold okJ at hok
      rw [if_pos rfl, if_neg (by decide)] at hok
      by_cases h1 : (1 ≤ q.f1.f0 ∧ q.f1.f0 ≤ 1000) ∧ (1 ≤ q.f1.f1 ∧ q.f1.f1 ≤ 1000) ∧ 1 ≤ q.f1.f2 ∧ q.f1.f2 ≤ 1000
      · rw [if_pos h1, if_neg (fun h2 => hok ⟨h2, h1⟩)]
      · rw [if_neg h1]
  · rw [if_neg c1, if_pos (show (n : Int) ≥ (A.length : Int) by omega)]
    by_cases c2 : n < A.length + B.length
    · rw [if_neg (show ¬ ((n : Int) ≥ (A.length : Int) + B.length) by omega), if_pos c2]
      by_cases h1 : q.f1.f0 = 0
      · rw [if_pos h1]
        by_cases h2 : 1 ≤ q.f1.f1 ∧ q.f1.f1 ≤ 1000
        · rw [if_pos h2]
          by_cases h3 : 1 ≤ q.f1.f2 ∧ q.f1.f2 ≤ 1000
          · rw [if_pos h3]
            by_cases h4 : 0 ≤ q.f0 ∧ q.f0 ≤ 1000000000000
            · rw [if_pos h4, if_pos (by unfold okJ; rw [if_neg (by decide), if_neg (by decide)]; exact ⟨h4, h1, h2, h3⟩)]
            · rw [if_neg h4, if_neg (by unfold okJ; exact fun h => h4 h.1)]
          · rw [if_neg h3, if_neg (by unfold okJ; exact fun h => h3 h.2.2.2)]
        · rw [if_neg h2, if_neg (by unfold okJ; rw [if_neg (show ¬ ((1 : Nat) = 2) by decide)]; exact fun h => h2 h.2.2.1)]
      · rw [if_neg h1, if_neg (by unfold okJ; rw [if_neg (show ¬ ((1 : Nat) = 0) by decide)]; exact fun h => h1 h.2.1)]
    · rw [if_pos (show (n : Int) ≥ (A.length : Int) + B.length by omega), if_neg c2]
      by_cases h1 : q.f1.f0 = 0
      · rw [if_pos h1]
        by_cases h2 : q.f1.f1 = 0
        · rw [if_pos h2]
          by_cases h3 : 1 ≤ q.f1.f2 ∧ q.f1.f2 ≤ 1000
          · rw [if_pos h3]
            by_cases h4 : 0 ≤ q.f0 ∧ q.f0 ≤ 1000000000000
            · rw [if_pos h4, if_pos (by unfold okJ; rw [if_neg (by decide), if_pos rfl]; exact ⟨h4, h1, h2, h3⟩)]
            · rw [if_neg h4, if_neg (by unfold okJ; exact fun h => h4 h.1)]
          · rw [if_neg h3, if_neg (by unfold okJ; exact fun h => h3 h.2.2.2)]
        · rw [if_neg h2, if_neg (by unfold okJ; rw [if_pos rfl]; exact fun h => h2 h.2.2.1)]
      · rw [if_neg h1, if_neg (by unfold okJ; rw [if_neg (show ¬ ((2 : Nat) = 0) by decide)]; exact fun h => h1 h.2.1)]
theorem iLine_loop (l : List S42) (hl : l.length ≤ 1048576) (a0 : Int) (A B C : List S42) (hs : A.length + B.length + C.length ≤ 1048576) : ∀ n, n ≤ l.length → ∃ b, Ev (fun k => impl_LineOk.l0 k l (l.length : Int) (n : Int) a0 A B C ((idsJ (l.take n)).map fun y => (y, true))) b ∧
    (b = true ↔ fromJ (fun m => okJ (if m < A.length then 0 else if m < A.length + B.length then 1 else 2)) l n) := by
  refine down ?_ ?_
  · refine ⟨true, Ev.next (f := fun _ => some true) (Ev.now true) fun k => ?_, by simp [fromJ_end]⟩
    simp only [impl_LineOk.l0]; rw [if_neg (by omega)]
  · rintro n hn ⟨b, hb, hiff⟩
    rw [fromJ_step hn]
    by_cases hok : okJ (if n < A.length then 0 else if n < A.length + B.length then 1 else 2) l[n]
    · by_cases hin : l[n].f0 ∈ idsJ (l.take n)
      · refine ⟨false, Ev.next (f := fun _ => some false) (Ev.now _) fun k => ?_, by simp [hin]⟩
        rw [iLine_step l hl a0 A B C hs n hn, if_pos hok, if_pos ((mlook_true _ _).2 hin)]
      · refine ⟨b, Ev.next hb fun k => ?_, by rw [hiff]; exact ⟨fun h => ⟨⟨hok, hin⟩, h⟩, fun h => h.2⟩⟩
        have ht : idsJ (l.take (n + 1)) = idsJ (l.take n) ++ [l[n].f0] := by
          unfold idsJ
          rw [List.take_add_one, List.getElem?_eq_getElem hn, List.map_append]; rfl
        rw [iLine_step l hl a0 A B C hs n hn, if_pos hok, if_neg (fun h => hin ((mlook_true _ _).1 h)), mput_true _ _ hin, ht]
    · refine ⟨false, Ev.next (f := fun _ => some false) (Ev.now _) fun k => ?_, by simp [hok]⟩
      rw [iLine_step l hl a0 A B C hs n hn, if_neg hok]
theorem iLine_ev (a0 : Int) (A B C : List S42) (h : A.length + B.length + C.length ≤ 1048576) : ∃ b, Ev (fun k => impl_LineOk.f k a0 A B C) b ∧ (b = true ↔ lineP a0 A B C) := by
  obtain ⟨b, hb, hiff⟩ := iLine_loop (A ++ B ++ C) (by simp only [List.length_append]; omega) a0 A B C h 0 (by omega)
  rw [fromJ_zero] at hiff
  have hj : ∀ t : Bool, Ev (fun k => impl_LineOk.j0 k t a0 A B C) (!t && b) := by
    intro t
    cases t with
    | true => exact Ev.next (f := fun _ => some false) (Ev.now _) fun k => by simp [impl_LineOk.j0]
    | false =>
      refine Ev.to (Ev.next (Ev.bind (jobs_ev a0 A B C h) (f := fun k t192 => impl_LineOk.l0 k t192 (t192.length : Int) 0 a0 A B C ([] : List (Int × Bool))) hb) fun k => ?_) (by simp)
      simp only [impl_LineOk.j0]
      rw [if_neg (by decide)]
  unfold impl_LineOk.f lineP
  simp only [within_eq, Option.bind_some]
  by_cases c1 : 1 ≤ a0 ∧ a0 ≤ 16
  · simp only [decide_eq_true c1, if_true]
    refine ⟨_, Ev.bind (jobs_ev a0 A B C h) (f := fun k t188 => impl_LineOk.j0 k (decide ((t188.length : Int) > a0)) a0 A B C) (hj _), ?_⟩
    rw [Bool.and_eq_true, hiff, Bool.not_eq_true', decide_eq_false_iff_not, List.length_append, List.length_append]
    constructor
    · rintro ⟨h1, h2⟩; exact ⟨c1, by omega, h2⟩
    · rintro ⟨h1, h2, h3⟩; exact ⟨by omega, h3⟩
  · simp only [decide_eq_false c1]
    exact ⟨_, hj true, by simp; omega⟩
theorem bool_same {a b : Bool} {p : Prop} (ha : a = true ↔ p) (hb : b = true ↔ p) : a = b := by
  cases a <;> cases b <;> simp_all

theorem sHeld_ev (a0 : Int) (A B C : List S42) (h : A.length + B.length + C.length ≤ 1048576) {b : Bool} (hb : Ev (fun k => spec_LineOk.f k a0 A B C) b) : Ev (fun k => spec_LineHeld.f k a0 A B C) (if b = true then ((A.length + B.length + C.length : Nat) : Int) else -1) := by
  unfold spec_LineHeld.f
  refine Ev.bind hb ?_
  cases b with
  | false => exact Ev.now' fun k => by simp
  | true =>
    refine Ev.now' fun k => ?_
    simp only [sAll_l a0 A B C h]
    simp
    omega
theorem iHeld_ev (a0 : Int) (A B C : List S42) (h : A.length + B.length + C.length ≤ 1048576) {b : Bool} (hb : Ev (fun k => impl_LineOk.f k a0 A B C) b) : Ev (fun k => impl_LineHeld.f k a0 A B C) (if b = true then ((A.length + B.length + C.length : Nat) : Int) else -1) := by
  unfold impl_LineHeld.f
  refine Ev.bind hb ?_
  cases b with
  | false => exact Ev.now' fun k => by simp
  | true =>
    simp only [if_true]
    refine Ev.to (Ev.bind (jobs_ev a0 A B C h) (f := fun _ t => some (t.length : Int)) (Ev.now _)) ?_
    simp
    omega
theorem FnExactLineHeld : laws_FnExactLineHeld.Pure := by
  intro y0 hy0
  refine Ev.rounds ?_
  obtain ⟨s, hs, hd⟩ := szLine_eq y0.f0 y0.f1 y0.f2 y0.f3 hy0.2.1.1 hy0.2.2.1.1 hy0.2.2.2.1
  unfold laws_FnExactLineHeld.f
  simp only [hs, Option.bind_some]
  by_cases hn : s < 0
  · exact Ev.now' fun k => if_pos hn
  · simp only [if_neg hn]
    have hd : y0.f1.length + y0.f2.length + y0.f3.length ≤ 1048576 := by omega
    have hT := toLine_ev y0.f0 y0.f1 y0.f2 y0.f3 hd
    have h1 : (y0.f1.map toJ).length + (y0.f2.map toJ).length + (y0.f3.map toJ).length ≤ 1048576 := by simpa using hd
    obtain ⟨b, hb, eb⟩ := sLine_ev y0.f0 _ _ _ h1
    obtain ⟨c, hc, ec⟩ := iLine_ev y0.f0 _ _ _ h1
    obtain rfl := bool_same eb ec
    refine Ev.bind hT (Ev.bind (sHeld_ev _ _ _ _ h1 hb) (Ev.bind hT (Ev.bind (iHeld_ev _ _ _ _ h1 hc) ?_)))
    simp only [if_true]
    refine Ev.bind hT (Ev.bind (eqLine_ev _ _ _ _ h1) ?_)
    exact Ev.now' fun k => by simp

end Go.Proofs.Ytcdangcjbijfkaa.Pure
