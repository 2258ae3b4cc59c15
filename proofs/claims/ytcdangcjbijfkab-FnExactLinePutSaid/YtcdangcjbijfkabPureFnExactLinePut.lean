/- The program's LinePut returns what the reference's LinePut returns, for every line and job (lines of which the law's own count speaks: any other answers true at once); the answer owns its memory. No condition. -/
import Derived.Test.YtcdangcjbijfkabPFnExactLinePutx12
namespace Go.Proofs.Ytcdangcjbijfkab.Pure
open Go.RowKit Go.Proofs.Ytcdangcjbijfkab.PFnExactLinePut Go.Proofs.YtcdangcjbijfkabW.PrintWords Go.Proofs.YtcdangcjbijfkabW.PrintLast Go.Proofs.YtcdangcjbijfkabW.PrintMore Go.Proofs.YtcdangcjbijfkabV
set_option linter.unusedVariables false
set_option linter.unusedSimpArgs false

theorem down {N : Nat} {P : Nat → Prop} (h0 : P N) (hs : ∀ n, n < N → P (n + 1) → P n) : ∀ n, n ≤ N → P n := by
  intro n hn
  obtain ⟨d, rfl⟩ : ∃ d, N = n + d := ⟨N - n, by omega⟩
  clear hn
  induction d generalizing n with
  | zero => exact h0
  | succ d ih => exact hs n (by omega) (ih (n + 1) (by rw [show n + 1 + d = n + (d + 1) by omega]; exact h0) (fun m hm hp => hs m (by omega) hp))

theorem wrap_id {x : Int} (h1 : -9223372036854775808 ≤ x) (h2 : x ≤ 9223372036854775807) : wrap64 x = x := by
  unfold wrap64; omega

theorem wrap_succ {n : Nat} (h : n < 4611686018427387904) : wrap64 ((n : Int) + 1) = ((n + 1 : Nat) : Int) := by
  rw [wrap_id (by omega) (by omega)]; omega

theorem wrap_pred {n : Nat} (h0 : 0 < n) (h : n < 4611686018427387904) : wrap64 ((n : Int) - 1) = ((n - 1 : Nat) : Int) := by
  rw [wrap_id (by omega) (by omega)]; omega

theorem getD_lt {α : Type} {l : List α} {n : Nat} (d : α) (h : n < l.length) : l.getD n d = l[n] := by
  rw [List.getD_eq_getElem?_getD, List.getElem?_eq_getElem h]; rfl

theorem rd_nat (l : List Int) (n : Nat) : rd l (n : Int) = l.getD n 0 := by
  unfold rd; simp

theorem Ev.now' {α : Type} {g : Nat → Option α} {r : α} (h : ∀ k, g k = some r) : Ev g r := ⟨0, fun k _ => h k⟩

/-- One round, and what follows. -/
theorem Ev.next {α : Type} {g f : Nat → Option α} {r : α} (k : Ev f r) (h : ∀ k, g (k + 1) = f k) : Ev g r := Ev.step h k

theorem Ev.to {α : Type} {g : Nat → Option α} {r q : α} (h : Ev g r) (e : r = q) : Ev g q := e ▸ h

theorem list_drop_cons {α : Type} {l : List α} {n : Nat} (h : n < l.length) : l.drop n = l[n] :: l.drop (n + 1) := List.drop_eq_getElem_cons h

theorem mem_drop {α : Type} {l : List α} {n : Nat} (h : n < l.length) {x : α} : x ∈ l.drop n ↔ x = l[n] ∨ x ∈ l.drop (n + 1) := by
  rw [List.drop_eq_getElem_cons h, List.mem_cons]

theorem any_drop {α : Type} {l : List α} {n : Nat} (h : n < l.length) (q : α → Bool) : (l.drop n).any q = (q l[n] || (l.drop (n + 1)).any q) := by
  rw [List.drop_eq_getElem_cons h, List.any_cons]

theorem all_drop {α : Type} {l : List α} {n : Nat} (h : n < l.length) (q : α → Bool) : (l.drop n).all q = (q l[n] && (l.drop (n + 1)).all q) := by
  rw [List.drop_eq_getElem_cons h, List.all_cons]

theorem dec_false {p : Prop} [Decidable p] (h : ¬ p) : false = decide p := (decide_eq_false h).symm
theorem dec_true {p : Prop} [Decidable p] (h : p) : true = decide p := (decide_eq_true h).symm
theorem dec_iff {p q : Prop} [Decidable p] [Decidable q] (h : p ↔ q) : decide p = decide q := decide_eq_decide.2 h

def toJ (x : S28) : S38 := ⟨x.f0, ⟨x.f1.f0, x.f1.f1, x.f1.f2⟩⟩
theorem rdLJ_nat (l : List S28) (n : Nat) (h : n < l.length) : rd_T28 l (n : Int) = l[n] := by
  unfold rd_T28; rw [Int.toNat_natCast, getD_lt _ h]
theorem rdJ_nat (l : List S38) (n : Nat) (h : n < l.length) : rd_T38 l (n : Int) = l[n] := by
  unfold rd_T38; rw [Int.toNat_natCast, getD_lt _ h]

theorem szJobs_eq (l : List S28) (a : Int) (hl : l.length ≤ maxLen) (h0 : 0 ≤ a) (h1 : a ≤ 1048576) : laws_szJobS.f l a = some (if a < l.length then -1 else a - l.length) := by
  have hm : maxLen = 9223372036854775807 := rfl
  unfold laws_szJobS.f
  rw [wrap_id (by omega) (by omega)]
  by_cases h : a < l.length
  · rw [if_pos (by omega), if_pos h]
  · rw [if_neg (by omega), if_neg h]

theorem szLine_eq (a0 : Int) (A B C : List S28) (hA : A.length ≤ maxLen) (hB : B.length ≤ maxLen) (hC : C.length ≤ maxLen) :
    ∃ s, laws_szLine.f a0 A B C 1048576 = some s ∧ (s < 0 ∨ A.length + B.length + C.length ≤ 1048576) := by
  unfold laws_szLine.f
  rw [szJobs_eq A _ hA (by omega) (by omega), Option.bind_some]
  by_cases h1 : (1048576 : Int) < A.length
  · rw [if_pos h1, if_pos (by omega)]; exact ⟨_, rfl, .inl (by omega)⟩
  · rw [if_neg h1, if_neg (by omega), szJobs_eq B _ hB (by omega) (by omega), Option.bind_some]
    by_cases h2 : (1048576 : Int) - A.length < B.length
    · rw [if_pos h2, if_pos (by omega)]; exact ⟨_, rfl, .inl (by omega)⟩
    · rw [if_neg h2, if_neg (by omega), szJobs_eq C _ hC (by omega) (by omega), Option.bind_some]
      by_cases h3 : (1048576 : Int) - A.length - B.length < C.length
      · rw [if_pos h3, if_pos (by omega)]; exact ⟨_, rfl, .inl (by omega)⟩
      · rw [if_neg h3, if_neg (by omega)]; exact ⟨_, rfl, .inr (by omega)⟩

theorem toJobs_loop (l : List S28) (hl : l.length ≤ 1048576) : ∀ n, n ≤ l.length → ∀ acc : List S38, acc.length = l.length → acc.take n = (l.take n).map toJ → Ev (fun k => laws_toJobS.l0 k l acc (n : Int)) (l.map toJ) := by
  refine down ?_ ?_
  · intro acc ha ht
    have e : acc = l.map toJ := by rw [List.take_of_length_le (by omega), List.take_of_length_le (by omega)] at ht; exact ht
    subst e
    refine Ev.next (f := fun _ => some (l.map toJ)) (Ev.now _) fun k => ?_
    simp only [laws_toJobS.l0]; rw [if_neg (by omega)]
  · intro n hn ih acc ha ht
    refine Ev.next (ih (acc.set n (toJ l[n])) (by simpa using ha) ?_) fun k => ?_
    · rw [List.take_set, List.take_add_one, List.take_add_one, ht, List.getElem?_eq_getElem hn, List.getElem?_eq_getElem (by omega)]
      have hl' : ((l.take n).map toJ).length = n := by rw [List.length_map, List.length_take]; omega
      simp only [Option.toList_some]
      rw [List.set_append_right _ _ (by omega), hl', List.map_append]
      simp
    · have hj : laws_toJob.f l[n].f0 l[n].f1.f0 l[n].f1.f1 l[n].f1.f2 = some (l[n].f0, l[n].f1.f0, l[n].f1.f1, l[n].f1.f2) := rfl
      simp only [laws_toJobS.l0]
      rw [if_pos (by omega), if_pos (by omega), rdLJ_nat l n hn, hj]
      simp only [Option.bind_some]
      rw [if_pos (by omega), wrap_succ (by omega), Int.toNat_natCast]; rfl

theorem toJobs_ev (l : List S28) (hl : l.length ≤ 1048576) : Ev (fun k => laws_toJobS.f k l) (l.map toJ) := by
  refine Ev.congr (fun k => ?_) (toJobs_loop l (by omega) 0 (by omega) (List.replicate l.length z38) (by simp) (by simp))
  unfold laws_toJobS.f
  rw [if_pos (by omega), if_pos (by omega)]
  simp

theorem toLine_ev (a0 : Int) (A B C : List S28) (h : A.length + B.length + C.length ≤ 1048576) : Ev (fun k => laws_toLine.f k a0 A B C) (a0, A.map toJ, B.map toJ, C.map toJ) := by
  unfold laws_toLine.f
  exact Ev.bind (toJobs_ev A (by omega)) (Ev.bind (toJobs_ev B (by omega)) (Ev.bind (toJobs_ev C (by omega)) (f := fun _ t => some (a0, A.map toJ, B.map toJ, t)) (Ev.now _)))

theorem eqJob_eq (a b c d : Int) : laws_eqJob.f a b c d a b c d = some true := by
  unfold laws_eqJob.f laws_eqVec.f
  rw [if_pos rfl, if_pos rfl, if_pos rfl, if_pos rfl]; rfl
theorem eqJobs_loop (l : List S38) (hl : l.length ≤ 1048576) : ∀ n, n ≤ l.length → Ev (fun k => laws_eqJobS.l0 k l l (n : Int)) true := by
  refine down ?_ ?_
  · refine Ev.next (f := fun _ => some true) (Ev.now true) fun k => ?_
    simp only [laws_eqJobS.l0]; rw [if_neg (by omega)]
  · intro n hn ih
    refine Ev.next ih fun k => ?_
    simp only [laws_eqJobS.l0]
    rw [if_pos (by omega), if_pos (by omega), if_pos (by omega), eqJob_eq, Option.bind_some, if_pos rfl, wrap_succ (by omega)]
theorem eqJobs_ev (l : List S38) (hl : l.length ≤ 1048576) : Ev (fun k => laws_eqJobS.f k l l) true := by
  refine Ev.congr (fun k => ?_) (eqJobs_loop l hl 0 (by omega))
  unfold laws_eqJobS.f
  rw [if_pos rfl]; rfl
theorem eqLine_ev (a0 : Int) (A B C : List S38) (h : A.length + B.length + C.length ≤ 1048576) : Ev (fun k => laws_eqLine.f k a0 A B C a0 A B C) true := by
  unfold laws_eqLine.f
  simp only [if_true]
  refine Ev.bind (eqJobs_ev A (by omega)) ?_
  simp only [if_true]
  refine Ev.bind (eqJobs_ev B (by omega)) ?_
  simp only [if_true]
  exact Ev.bind (eqJobs_ev C (by omega)) (f := fun _ t => if t = true then some true else some false) (Ev.now' fun k => if_pos rfl)

theorem within_eq (a b c : Int) : impl_within.f a b c = some (decide (b ≤ a ∧ a ≤ c)) := by
  unfold impl_within.f
  by_cases h : a ≥ b
  · rw [if_pos h]; congr 1; simp; omega
  · rw [if_neg h]; congr 1; simp; omega

theorem grow_eqJ (n : Int) (h0 : 0 ≤ n) (h1 : n ≤ 1048576) : slices_Grow_impl_Job_impl_Job.f n = some [] := by
  have e : wrap64 n = n := wrap_id (by omega) (by omega)
  unfold slices_Grow_impl_Job_impl_Job.f
  rw [if_neg (by omega), e]
  by_cases h : n > 0
  · rw [if_pos h, if_pos h0, if_pos (by simp; omega)]
    simp
  · rw [if_neg h]

def sumLenJ (LL : List (List S38)) : Nat := LL.flatten.length
theorem rdL_natJ (LL : List (List S38)) (n : Nat) (h : n < LL.length) : rd_L5 LL (n : Int) = LL[n] := by
  unfold rd_L5; rw [Int.toNat_natCast, getD_lt _ h]
theorem flat_dropJ {LL : List (List S38)} {n : Nat} (h : n < LL.length) : (LL.drop n).flatten = LL[n] ++ (LL.drop (n + 1)).flatten := by
  rw [List.drop_eq_getElem_cons h, List.flatten_cons]

theorem concat_l1J (LL : List (List S38)) (hl : LL.length ≤ 1048576) (hs : LL.flatten.length ≤ 1048576) : ∀ n, n ≤ LL.length → ∀ acc : List S38, acc.length + (LL.drop n).flatten.length ≤ 1048576 → Ev (fun k => slices_Concat_impl_Job_impl_Job.l1 k acc LL (LL.length : Int) (n : Int)) (acc ++ (LL.drop n).flatten) := by
  refine down ?_ ?_
  · intro acc ha
    refine Ev.to (Ev.next (f := fun _ => some acc) (Ev.now _) fun k => ?_) (by simp)
    simp only [slices_Concat_impl_Job_impl_Job.l1]; rw [if_neg (by omega)]
  · intro n hn ih acc ha
    rw [flat_dropJ hn] at ha ⊢
    rw [List.length_append] at ha
    refine Ev.to (Ev.next (ih (acc ++ LL[n]) (by rw [List.length_append]; omega)) fun k => ?_) (by simp)
    simp only [slices_Concat_impl_Job_impl_Job.l1]
    rw [if_pos (by omega), if_pos (by omega), if_pos (by omega), rdL_natJ LL n hn, if_pos (by omega), wrap_succ (by omega)]

theorem concat_l0J (LL : List (List S38)) (hl : LL.length ≤ 1048576) (hs : LL.flatten.length ≤ 1048576) : ∀ n, n ≤ LL.length → ∀ s : Nat, s + (LL.drop n).flatten.length ≤ 1048576 → Ev (fun k => slices_Concat_impl_Job_impl_Job.l0 k LL (s : Int) LL (LL.length : Int) (n : Int)) LL.flatten := by
  refine down ?_ ?_
  · intro s hs'
    refine Ev.to (Ev.next (concat_l1J LL hl hs 0 (by omega) [] (by simpa using hs)) fun k => ?_) (by simp)
    simp only [slices_Concat_impl_Job_impl_Job.l0]; rw [if_neg (by omega), grow_eqJ _ (by omega) (by omega)]; rfl
  · intro n hn ih s hs'
    rw [flat_dropJ hn, List.length_append] at hs'
    refine Ev.next (ih (s + LL[n].length) (by omega)) fun k => ?_
    simp only [slices_Concat_impl_Job_impl_Job.l0]
    rw [if_pos (by omega), if_pos (by omega), if_pos (by omega), rdL_natJ LL n hn, wrap_id (by omega) (by omega), if_neg (by omega), wrap_succ (by omega), show (s : Int) + (LL[n].length : Int) = ((s + LL[n].length : Nat) : Int) by omega]

theorem concat_evJ (LL : List (List S38)) (hl : LL.length ≤ 1048576) (hs : LL.flatten.length ≤ 1048576) : Ev (fun k => slices_Concat_impl_Job_impl_Job.f k LL) LL.flatten := by
  have := concat_l0J LL hl hs 0 (by omega) 0 (by simpa using hs)
  exact Ev.congr (fun k => by unfold slices_Concat_impl_Job_impl_Job.f; rfl) this

/-- What a job in this lane has to be (so many stages are over). -/
def okJ (z : Nat) (x : S38) : Prop := (0 ≤ x.f0 ∧ x.f0 ≤ 1000000000000) ∧ (if z = 0 then 1 ≤ x.f1.f0 ∧ x.f1.f0 ≤ 1000 else x.f1.f0 = 0) ∧ (if z = 2 then x.f1.f1 = 0 else 1 ≤ x.f1.f1 ∧ x.f1.f1 ≤ 1000) ∧ 1 ≤ x.f1.f2 ∧ x.f1.f2 ≤ 1000
instance okJ_dec (z : Nat) (x : S38) : Decidable (okJ z x) := by unfold okJ; exact inferInstance
def idsJ (l : List S38) : List Int := l.map (·.f0)
/-- The two lists' jobs from a place on. -/
def fromJ (R : Nat → S38 → Prop) (l : List S38) (n : Nat) : Prop := ∀ m, n ≤ m → ∀ h : m < l.length, R m l[m] ∧ l[m].f0 ∉ idsJ (l.take m)
theorem fromJ_end (R : Nat → S38 → Prop) (l : List S38) : fromJ R l l.length := fun m h1 h2 => by omega
theorem fromJ_step {R : Nat → S38 → Prop} {l : List S38} {n : Nat} (hn : n < l.length) : fromJ R l n ↔ (R n l[n] ∧ l[n].f0 ∉ idsJ (l.take n)) ∧ fromJ R l (n + 1) := by
  constructor
  · exact fun h => ⟨h n (Nat.le_refl _) hn, fun m hm hl => h m (by omega) hl⟩
  · rintro ⟨h1, h2⟩ m hm hl
    by_cases e : m = n
    · subst e; exact h1
    · exact h2 m (by omega) hl
theorem nodup_from {l : List S38} : (∀ m, ∀ h : m < l.length, l[m].f0 ∉ idsJ (l.take m)) ↔ (idsJ l).Nodup := by
  unfold idsJ
  constructor
  · intro h
    rw [List.nodup_iff_pairwise_ne, List.pairwise_iff_getElem]
    intro i j hi hj hij e
    rw [List.length_map] at hi hj
    refine h j hj ?_
    rw [List.getElem_map, List.getElem_map] at e
    rw [← e]
    exact List.mem_map.2 ⟨l[i], List.mem_take_iff_getElem.2 ⟨i, by omega, rfl⟩, rfl⟩
  · intro h m hm hin
    obtain ⟨x, hx, ex⟩ := List.mem_map.1 hin
    obtain ⟨i, hi, rfl⟩ := List.mem_take_iff_getElem.1 hx
    rw [List.nodup_iff_pairwise_ne, List.pairwise_iff_getElem] at h
    have := h i m (by rw [List.length_map]; omega) (by rw [List.length_map]; omega) (by omega)
    rw [List.getElem_map, List.getElem_map] at this
    exact this ex
theorem lanes {X Y Z : List S38} {R : Nat → S38 → Prop} {a b c : Nat} :
    (∀ m, ∀ h : m < (X ++ Y ++ Z).length, R (if m < X.length then a else if m < X.length + Y.length then b else c) (X ++ Y ++ Z)[m]) ↔ (∀ x ∈ X, R a x) ∧ (∀ x ∈ Y, R b x) ∧ ∀ x ∈ Z, R c x := by
  constructor
  · intro h
    refine ⟨fun x hx => ?_, fun x hx => ?_, fun x hx => ?_⟩
    · obtain ⟨i, hi, rfl⟩ := List.getElem_of_mem hx
      have := h i (by simp only [List.length_append]; omega)
      rw [if_pos hi, List.getElem_append_left (by simp only [List.length_append]; omega), List.getElem_append_left hi] at this
      exact this
    · obtain ⟨i, hi, rfl⟩ := List.getElem_of_mem hx
      have := h (X.length + i) (by simp only [List.length_append]; omega)
      rw [if_neg (by omega), if_pos (by omega), List.getElem_append_left (by simp only [List.length_append]; omega), List.getElem_append_right (by omega)] at this
      simpa using this
    · obtain ⟨i, hi, rfl⟩ := List.getElem_of_mem hx
      have := h (X.length + Y.length + i) (by simp only [List.length_append]; omega)
      rw [if_neg (by omega), if_neg (by omega), List.getElem_append_right (by simp only [List.length_append]; omega)] at this
      simpa using this
  · rintro ⟨h1, h2, h3⟩ m hm
    simp only [List.length_append] at hm
    by_cases c1 : m < X.length
    · rw [if_pos c1, List.getElem_append_left (by simp only [List.length_append]; omega), List.getElem_append_left c1]
      exact h1 _ (List.getElem_mem _)
    · rw [if_neg c1]
      by_cases c2 : m < X.length + Y.length
      · rw [if_pos c2, List.getElem_append_left (by simp only [List.length_append]; omega), List.getElem_append_right (by omega)]
        exact h2 _ (List.getElem_mem _)
      · rw [if_neg c2, List.getElem_append_right (by simp only [List.length_append]; omega)]
        exact h3 _ (List.getElem_mem _)
/-- What a line has to be. -/
def lineP (cap : Int) (A B C : List S38) : Prop := (1 ≤ cap ∧ cap ≤ 16) ∧ ((A.length + B.length + C.length : Nat) : Int) ≤ cap ∧ ((∀ x ∈ A, okJ 0 x) ∧ (∀ x ∈ B, okJ 1 x) ∧ ∀ x ∈ C, okJ 2 x) ∧ (idsJ (A ++ B ++ C)).Nodup
theorem fromJ_zero {X Y Z : List S38} {a b c : Nat} : fromJ (fun m => okJ (if m < X.length then a else if m < X.length + Y.length then b else c)) (X ++ Y ++ Z) 0 ↔ ((∀ x ∈ X, okJ a x) ∧ (∀ x ∈ Y, okJ b x) ∧ ∀ x ∈ Z, okJ c x) ∧ (idsJ (X ++ Y ++ Z)).Nodup := by
  unfold fromJ
  rw [← lanes (R := okJ), ← nodup_from]
  exact ⟨fun h => ⟨fun m hm => (h m (Nat.zero_le _) hm).1, fun m hm => (h m (Nat.zero_le _) hm).2⟩, fun h m _ hm => ⟨h.1 m hm, h.2 m hm⟩⟩

/-! The reference's. -/
theorem sAll_l (a0 : Int) (A B C : List S38) (h : A.length + B.length + C.length ≤ 1048576) : spec_l21All.f a0 A B C = some (C ++ B ++ A) := by
  unfold spec_l21All.f
  simp only [Option.bind_some, List.nil_append, List.length_append, List.length_nil]
  rw [if_pos (by omega), if_pos (by omega), if_pos (by omega)]
theorem sIn_loop (l : List S38) (hl : l.length ≤ 1048576) (a0 : Int) (A B C : List S38) (n : Nat) (hn : n < l.length) {w : Bool} (hw : Ev (fun k => spec_LineOk.l1 k l (n : Int) (n : Int) a0 A B C) w) :
    ∀ m, m ≤ n → (∀ j, j < m → ∀ h : j < l.length, l[j].f0 ≠ l[n].f0) → ∃ b, Ev (fun k => spec_LineOk.l1 k l (n : Int) (m : Int) a0 A B C) b ∧ (b = true ↔ l[n].f0 ∉ idsJ (l.take n) ∧ w = true) := by
  refine down ?_ ?_
  · intro hd
    refine ⟨w, hw, ⟨fun h => ⟨fun hin => ?_, h⟩, fun h => h.2⟩⟩
    obtain ⟨x, hx, ex⟩ := List.mem_map.1 hin
    obtain ⟨i, hi, rfl⟩ := List.mem_take_iff_getElem.1 hx
    exact hd i (by omega) (by omega) ex
  · intro m hm ih hd
    have hml : m < l.length := by omega
    by_cases e : l[m].f0 = l[n].f0
    · refine ⟨false, Ev.next (f := fun _ => some false) (Ev.now _) fun k => ?_, by simp; intro h; exact absurd (List.mem_map.2 ⟨l[m], List.mem_take_iff_getElem.2 ⟨m, by omega, rfl⟩, e⟩) h⟩
      simp only [spec_LineOk.l1]
      rw [if_pos (by omega), if_pos (by omega), if_pos (by omega), if_pos (by omega), if_pos (by omega), rdJ_nat l m hml, rdJ_nat l n hn, if_pos e]
    · obtain ⟨b, hb, hiff⟩ := ih (fun j hj h => by
        by_cases c : j = m
        · subst c; exact e
        · exact hd j (by omega) h)
      refine ⟨b, Ev.next hb fun k => ?_, hiff⟩
      simp only [spec_LineOk.l1]
      rw [if_pos (by omega), if_pos (by omega), if_pos (by omega), if_pos (by omega), if_pos (by omega), rdJ_nat l m hml, rdJ_nat l n hn, if_neg e, wrap_succ (by omega)]
theorem sJ5_ev (l : List S38) (n : Nat) (hn : n < 1048576) (z : Int) (a0 : Int) (A B C : List S38) (t : Bool) (x y w : Int) {b : Bool} (hb : Ev (fun k => spec_LineOk.l0 k l ((n + 1 : Nat) : Int) a0 A B C) b) :
    Ev (fun k => spec_LineOk.j5 k l (n : Int) z t a0 A B C x y w) (!t && decide ((if z = 2 then y = 0 else True) ∧ (if z < 2 then 1 ≤ y ∧ y ≤ 1000 else True) ∧ 1 ≤ w ∧ w ≤ 1000) && b) := by
  have hs : wrap64 ((n : Int) + 1) = ((n + 1 : Nat) : Int) := wrap_succ (by omega)
  cases t with
  | true => exact Ev.next (f := fun _ => some false) (Ev.now _) fun k => by simp [spec_LineOk.j5]
  | false =>
    by_cases h : (if z = 2 then y = 0 else True) ∧ (if z < 2 then 1 ≤ y ∧ y ≤ 1000 else True) ∧ 1 ≤ w ∧ w ≤ 1000
    · rw [decide_eq_true h]
      refine Ev.to (Ev.next hb fun k => ?_) (by simp)
      simp only [spec_LineOk.j5, hs]
      obtain ⟨h1, h2, h3, h4⟩ := h
      rw [if_neg (show ¬ (false = true) by decide)]
      repeat' split
      all_goals first | rfl | (exfalso; simp_all; done) | (exfalso; simp_all; omega)
    · rw [decide_eq_false h]
      refine Ev.to (Ev.next (f := fun _ => some false) (Ev.now _) fun k => ?_) (by simp)
      simp only [spec_LineOk.j5, hs]
      rw [if_neg (show ¬ (false = true) by decide)]
      repeat' split
      all_goals first | rfl | (exfalso; apply h; simp_all; done) | (exfalso; apply h; simp_all; omega)
theorem sJ4_ev (l : List S38) (n : Nat) (hn : n < 1048576) (z : Nat) (hz : z ≤ 2) (a0 : Int) (A B C : List S38) (x y w : Int) {b : Bool} (hb : Ev (fun k => spec_LineOk.l0 k l ((n + 1 : Nat) : Int) a0 A B C) b) :
    Ev (fun k => spec_LineOk.j4 k l (n : Int) (z : Int) a0 A B C x y w) (decide ((if z = 0 then 1 ≤ x ∧ x ≤ 1000 else x = 0) ∧ (if z = 2 then y = 0 else 1 ≤ y ∧ y ≤ 1000) ∧ 1 ≤ w ∧ w ≤ 1000) && b) := by
  have h5 := fun t => sJ5_ev l n hn (z : Int) a0 A B C t x y w hb
  have key : ∀ t : Bool, (t = true ↔ ¬ (if z = 0 then 1 ≤ x ∧ x ≤ 1000 else x = 0)) → (!t && decide ((if (z : Int) = 2 then y = 0 else True) ∧ (if (z : Int) < 2 then 1 ≤ y ∧ y ≤ 1000 else True) ∧ 1 ≤ w ∧ w ≤ 1000) && b) = (decide ((if z = 0 then 1 ≤ x ∧ x ≤ 1000 else x = 0) ∧ (if z = 2 then y = 0 else 1 ≤ y ∧ y ≤ 1000) ∧ 1 ≤ w ∧ w ≤ 1000) && b) := by
    intro t ht
    congr 1
    rw [show (!t) = decide (if z = 0 then 1 ≤ x ∧ x ≤ 1000 else x = 0) by
      cases t with
      | true => exact (decide_eq_false (ht.1 rfl)).symm
      | false => exact (decide_eq_true (by
          refine Classical.byContradiction fun hc => ?_
          exact absurd (ht.2 hc) (by decide))).symm, ← Bool.decide_and]
    refine dec_iff (and_congr_right fun _ => ?_)
    obtain rfl | rfl | rfl : z = 0 ∨ z = 1 ∨ z = 2 := by omega
    · simp
    · simp
    · simp
  by_cases h0 : z = 0
  · subst h0
    by_cases h1 : x < 1
    · refine Ev.to (Ev.next (h5 true) fun k => ?_) (key true (by simp; omega))
      simp only [spec_LineOk.j4]
      rw [if_neg (by simp), if_pos (by simp), if_pos h1]
    · refine Ev.to (Ev.next (h5 (decide (x > 1000))) fun k => ?_) (key _ (by simp; omega))
      simp only [spec_LineOk.j4]
      rw [if_neg (by simp), if_pos (by simp), if_neg h1]
  · by_cases h1 : x = 0
    · refine Ev.to (Ev.next (h5 false) fun k => ?_) (key false (by simp [h0, h1]))
      simp only [spec_LineOk.j4]
      rw [if_pos (by omega), if_pos h1, if_neg (by omega)]
    · refine Ev.to (Ev.next (h5 true) fun k => ?_) (key true (by simp [h0, h1]))
      simp only [spec_LineOk.j4]
      rw [if_pos (by omega), if_neg h1]
theorem sLine_loop (l : List S38) (hl : l.length ≤ 1048576) (a0 : Int) (A B C : List S38) (hs : A.length + B.length + C.length ≤ 1048576) : ∀ n, n ≤ l.length → ∃ b, Ev (fun k => spec_LineOk.l0 k l (n : Int) a0 A B C) b ∧
    (b = true ↔ fromJ (fun m => okJ (if m < C.length then 2 else if m < C.length + B.length then 1 else 0)) l n) := by
  refine down ?_ ?_
  · refine ⟨true, Ev.next (f := fun _ => some true) (Ev.now true) fun k => ?_, by simp [fromJ_end]⟩
    simp only [spec_LineOk.l0]; rw [if_neg (by omega)]
  · rintro n hn ⟨b, hb, hiff⟩
    rw [fromJ_step hn]
    have hz : (if n < C.length then 2 else if n < C.length + B.length then 1 else 0) ≤ 2 := by
      by_cases c1 : n < C.length
      · rw [if_pos c1]; exact Nat.le_refl 2
      · rw [if_neg c1]; by_cases c2 : n < C.length + B.length
        · rw [if_pos c2]; decide
        · rw [if_neg c2]; decide
    have h4 := sJ4_ev l n (by omega) (if n < C.length then 2 else if n < C.length + B.length then 1 else 0) hz a0 A B C l[n].f1.f0 l[n].f1.f1 l[n].f1.f2 hb
    have h1 : Ev (fun k => spec_LineOk.l1 k l (n : Int) (n : Int) a0 A B C) _ := Ev.next h4 fun k => by
      simp only [spec_LineOk.l1]
      rw [if_neg (by omega), if_pos (by omega), if_pos (by omega), rdJ_nat l n hn]
      by_cases c1 : n < C.length
      · rw [if_pos (by omega), if_pos c1]; rfl
      · rw [if_neg (by omega), if_neg c1, wrap_id (by omega) (by omega)]
        by_cases c2 : n < C.length + B.length
        · rw [if_pos (by omega), if_pos c2]; rfl
        · rw [if_neg (by omega), if_neg c2]; rfl
    obtain ⟨b1, hb1, hiff1⟩ := sIn_loop l hl a0 A B C n hn h1 0 (by omega) (by simp)
    have hj2 : ∀ t, Ev (fun k => spec_LineOk.j2 k l (n : Int) t a0 A B C) (!t && b1) := by
      intro t
      cases t with
      | true => exact Ev.next (f := fun _ => some false) (Ev.now _) fun k => by simp [spec_LineOk.j2]
      | false => exact Ev.to (Ev.next hb1 fun k => by simp [spec_LineOk.j2]) (by simp)
    by_cases c0 : l[n].f0 < 0
    · refine ⟨_, Ev.next (hj2 true) fun k => ?_, ?_⟩
      · simp only [spec_LineOk.l0]
        rw [if_pos (by omega), if_pos (by omega), rdJ_nat l n hn, if_pos c0]
      · simp [okJ]; intros; omega
    · refine ⟨_, Ev.next (hj2 (decide (l[n].f0 > 1000000000000))) fun k => ?_, ?_⟩
      · simp only [spec_LineOk.l0]
        rw [if_pos (by omega), if_pos (by omega), rdJ_nat l n hn, if_neg c0]
      · rw [Bool.and_eq_true, hiff1, Bool.and_eq_true, decide_eq_true_eq, hiff, Bool.not_eq_true', decide_eq_false_iff_not]
        unfold okJ
        constructor
        · rintro ⟨h1, h2, h3, h4⟩; exact ⟨⟨⟨⟨by omega, by omega⟩, h3⟩, h2⟩, h4⟩
        · rintro ⟨⟨⟨h1, h3⟩, h2⟩, h4⟩; exact ⟨by omega, h2, h3, h4⟩
theorem sLine_ev (a0 : Int) (A B C : List S38) (h : A.length + B.length + C.length ≤ 1048576) : ∃ b, Ev (fun k => spec_LineOk.f k a0 A B C) b ∧ (b = true ↔ lineP a0 A B C) := by
  obtain ⟨b, hb, hiff⟩ := sLine_loop (C ++ B ++ A) (by simp only [List.length_append]; omega) a0 A B C h 0 (by omega)
  rw [fromJ_zero] at hiff
  have hP : (idsJ (C ++ B ++ A)).Nodup ↔ (idsJ (A ++ B ++ C)).Nodup := by
    refine List.Perm.nodup_iff (List.Perm.map _ ?_)
    rw [List.append_assoc]
    refine List.perm_append_comm.trans (List.Perm.append_right _ List.perm_append_comm)
  have hj : ∀ t : Bool, Ev (fun k => spec_LineOk.j0 k t a0 A B C) (!t && decide (((A.length + B.length + C.length : Nat) : Int) ≤ a0) && b) := by
    intro t
    cases t with
    | true => exact Ev.next (f := fun _ => some false) (Ev.now _) fun k => by simp [spec_LineOk.j0]
    | false =>
      by_cases c : ((A.length + B.length + C.length : Nat) : Int) ≤ a0
      · rw [decide_eq_true c]
        refine Ev.to (Ev.next hb fun k => ?_) (by simp)
        simp only [spec_LineOk.j0]
        rw [if_neg (by decide), sAll_l a0 A B C h, Option.bind_some, if_neg (by simp only [List.length_append]; omega)]; rfl
      · rw [decide_eq_false c]
        refine Ev.to (Ev.next (f := fun _ => some false) (Ev.now _) fun k => ?_) (by simp)
        simp only [spec_LineOk.j0]
        rw [if_neg (by decide), sAll_l a0 A B C h, Option.bind_some, if_pos (by simp only [List.length_append]; omega)]
  unfold spec_LineOk.f lineP
  by_cases c1 : a0 < 1
  · simp only [if_pos c1]; exact ⟨_, hj true, by simp; omega⟩
  · simp only [if_neg c1]
    by_cases c2 : a0 > 16
    · simp only [if_pos c2]; exact ⟨_, hj true, by simp; omega⟩
    · simp only [if_neg c2]
      by_cases c3 : (A.length : Int) > a0
      · simp only [if_pos c3]; exact ⟨_, hj true, by simp; omega⟩
      · simp only [if_neg c3]
        by_cases c4 : (B.length : Int) > a0
        · simp only [if_pos c4]; exact ⟨_, hj true, by simp; omega⟩
        · simp only [if_neg c4]
          refine ⟨_, hj _, ?_⟩
          rw [Bool.and_eq_true, Bool.and_eq_true, hiff, decide_eq_true_eq, Bool.not_eq_true', decide_eq_false_iff_not, hP]
          constructor
          · rintro ⟨⟨h1, h2⟩, ⟨h3, h4, h5⟩, h6⟩; exact ⟨⟨by omega, by omega⟩, h2, ⟨h5, h4, h3⟩, h6⟩
          · rintro ⟨h1, h2, ⟨h3, h4, h5⟩, h6⟩; exact ⟨⟨by omega, h2⟩, ⟨h5, h4, h3⟩, h6⟩

/-! The program's. -/
theorem jobs_ev (a0 : Int) (A B C : List S38) (h : A.length + B.length + C.length ≤ 1048576) : Ev (fun k => impl_Line_jobs.f k a0 A B C) (A ++ B ++ C) := by
  unfold impl_Line_jobs.f
  exact Ev.to (Ev.bind (concat_evJ [A, B, C] (by simp) (by simp; omega)) (f := fun _ t => some t) (Ev.now _)) (by simp)
theorem costOk_eq (a b c : Int) : impl_CostOk.f a b c = some (decide ((1 ≤ a ∧ a ≤ 1000) ∧ (1 ≤ b ∧ b ≤ 1000) ∧ (1 ≤ c ∧ c ≤ 1000))) := by
  have hv : impl_Vec_isFrom.f a b c 1 1000 = some (decide ((1 ≤ a ∧ a ≤ 1000) ∧ (1 ≤ b ∧ b ≤ 1000) ∧ (1 ≤ c ∧ c ≤ 1000))) := by
    unfold impl_Vec_isFrom.f
    simp only [within_eq, Option.bind_some, decide_eq_true_eq]
    repeat' split
    all_goals (congr 1; first | exact dec_iff (by omega) | exact dec_false (by omega) | exact dec_true (by omega))
  unfold impl_CostOk.f
  rw [hv]; rfl
theorem isNeed_eq (a : Int) : impl_isNeed.f a = some (decide (1 ≤ a ∧ a ≤ 1000)) := by
  unfold impl_isNeed.f; rw [within_eq]; rfl
theorem mfind_true (x : Int) : ∀ (l : List Int) (i : Nat), mfind (l.map fun y => (y, true)) x i = none ↔ x ∉ l
  | [], i => by simp [mfind]
  | y :: r, i => by
    simp only [List.map_cons, mfind, List.mem_cons, not_or]
    by_cases h : x = y
    · rw [if_pos h]; simp [h]
    · rw [if_neg h, mfind_true x r]; simp [h]
theorem mlook_true (x : Int) (l : List Int) : mlook false (l.map fun y => (y, true)) x = true ↔ x ∈ l := by
  unfold mlook
  cases h : mfind (l.map fun y => (y, true)) x 0 with
  | none => rw [mfind_true] at h; simp [h]
  | some z =>
    obtain ⟨q, h1, h2⟩ := mfind_at x _ 0 z.1 z.2 h
    have hm := List.mem_of_getElem? h2
    obtain ⟨y, hy, e⟩ := List.mem_map.1 hm
    injection e with e1 e2
    subst e1
    simp [← e2, hy]
theorem mput_true (x : Int) (l : List Int) (h : x ∉ l) : mput (l.map fun y => (y, true)) x true = (l ++ [x]).map fun y => (y, true) := by
  unfold mput
  rw [(mfind_true x l 0).2 h]
  simp
theorem iLine_step (l : List S38) (hl : l.length ≤ 1048576) (a0 : Int) (A B C : List S38) (hs : A.length + B.length + C.length ≤ 1048576) (n : Nat) (hn : n < l.length) (k : Nat) (M : List (Int × Bool)) :
    impl_LineOk.l0 (k + 1) l (l.length : Int) (n : Int) a0 A B C M = if okJ (if n < A.length then 0 else if n < A.length + B.length then 1 else 2) l[n] then (if mlook false M l[n].f0 = true then some false else impl_LineOk.l0 k l (l.length : Int) ((n + 1 : Nat) : Int) a0 A B C (mput M l[n].f0 true)) else some false := by
  simp only [impl_LineOk.l0]
  rw [if_pos (by omega), if_pos (by omega), if_pos (by omega), rdJ_nat l n hn, wrap_id (x := (A.length : Int) + B.length) (by omega) (by omega), wrap_succ (by omega)]
  simp only [costOk_eq, isNeed_eq, within_eq, Option.bind_some, decide_eq_true_eq]
  generalize impl_LineOk.l0 k l (l.length : Int) ((n + 1 : Nat) : Int) a0 A B C (mput M l[n].f0 true) = X
  generalize (if mlook false M l[n].f0 = true then some false else X) = Y
  generalize l[n] = q
  clear hs hl
  by_cases c1 : n < A.length
  · rw [if_neg (show ¬ ((n : Int) ≥ (A.length : Int) + B.length) by omega), if_neg (show ¬ ((n : Int) ≥ (A.length : Int)) by omega), if_pos c1]
    by_cases hok : okJ 0 q
    · have hok' := hok
      unfold okJ at hok'
      rw [if_pos rfl, if_neg (by decide)] at hok'
      rw [if_pos hok, if_pos hok'.2, if_pos hok'.1]
    · rw [if_neg hok]
      unfold okJ at hok
      rw [if_pos rfl, if_neg (by decide)] at hok
      by_cases h1 : (1 ≤ q.f1.f0 ∧ q.f1.f0 ≤ 1000) ∧ (1 ≤ q.f1.f1 ∧ q.f1.f1 ≤ 1000) ∧ 1 ≤ q.f1.f2 ∧ q.f1.f2 ≤ 1000
      · rw [if_pos h1, if_neg (fun h2 => hok ⟨h2, h1⟩)]
      · rw [if_neg h1]
  · rw [if_neg c1, if_pos (show (n : Int) ≥ (A.length : Int) by omega)]
    by_cases c2 : n < A.length + B.length
    · rw [if_neg (show ¬ ((n : Int) ≥ (A.length : Int) + B.length) by omega), if_pos c2]
      by_cases h1 : q.f1.f0 = 0
      · rw [if_pos h1]
        by_cases h2 : 1 ≤ q.f1.f1 ∧ q.f1.f1 ≤ 1000
        · rw [if_pos h2]
          by_cases h3 : 1 ≤ q.f1.f2 ∧ q.f1.f2 ≤ 1000
          · rw [if_pos h3]
            by_cases h4 : 0 ≤ q.f0 ∧ q.f0 ≤ 1000000000000
            · rw [if_pos h4, if_pos (by unfold okJ; rw [if_neg (by decide), if_neg (by decide)]; exact ⟨h4, h1, h2, h3⟩)]
            · rw [if_neg h4, if_neg (by unfold okJ; exact fun h => h4 h.1)]
          · rw [if_neg h3, if_neg (by unfold okJ; exact fun h => h3 h.2.2.2)]
        · rw [if_neg h2, if_neg (by unfold okJ; rw [if_neg (show ¬ ((1 : Nat) = 2) by decide)]; exact fun h => h2 h.2.2.1)]
      · rw [if_neg h1, if_neg (by unfold okJ; rw [if_neg (show ¬ ((1 : Nat) = 0) by decide)]; exact fun h => h1 h.2.1)]
    · rw [if_pos (show (n : Int) ≥ (A.length : Int) + B.length by omega), if_neg c2]
      by_cases h1 : q.f1.f0 = 0
      · rw [if_pos h1]
        by_cases h2 : q.f1.f1 = 0
        · rw [if_pos h2]
          by_cases h3 : 1 ≤ q.f1.f2 ∧ q.f1.f2 ≤ 1000
          · rw [if_pos h3]
            by_cases h4 : 0 ≤ q.f0 ∧ q.f0 ≤ 1000000000000
            · rw [if_pos h4, if_pos (by unfold okJ; rw [if_neg (by decide), if_pos rfl]; exact ⟨h4, h1, h2, h3⟩)]
            · rw [if_neg h4, if_neg (by unfold okJ; exact fun h => h4 h.1)]
          · rw [if_neg h3, if_neg (by unfold okJ; exact fun h => h3 h.2.2.2)]
        · rw [if_neg h2, if_neg (by unfold okJ; rw [if_pos rfl]; exact fun h => h2 h.2.2.1)]
      · rw [if_neg h1, if_neg (by unfold okJ; rw [if_neg (show ¬ ((2 : Nat) = 0) by decide)]; exact fun h => h1 h.2.1)]
theorem iLine_loop (l : List S38) (hl : l.length ≤ 1048576) (a0 : Int) (A B C : List S38) (hs : A.length + B.length + C.length ≤ 1048576) : ∀ n, n ≤ l.length → ∃ b, Ev (fun k => impl_LineOk.l0 k l (l.length : Int) (n : Int) a0 A B C ((idsJ (l.take n)).map fun y => (y, true))) b ∧
    (b = true ↔ fromJ (fun m => okJ (if m < A.length then 0 else if m < A.length + B.length then 1 else 2)) l n) := by
  refine down ?_ ?_
  · refine ⟨true, Ev.next (f := fun _ => some true) (Ev.now true) fun k => ?_, by simp [fromJ_end]⟩
    simp only [impl_LineOk.l0]; rw [if_neg (by omega)]
  · rintro n hn ⟨b, hb, hiff⟩
    rw [fromJ_step hn]
    by_cases hok : okJ (if n < A.length then 0 else if n < A.length + B.length then 1 else 2) l[n]
    · by_cases hin : l[n].f0 ∈ idsJ (l.take n)
      · refine ⟨false, Ev.next (f := fun _ => some false) (Ev.now _) fun k => ?_, by simp [hin]⟩
        rw [iLine_step l hl a0 A B C hs n hn, if_pos hok, if_pos ((mlook_true _ _).2 hin)]
      · refine ⟨b, Ev.next hb fun k => ?_, by rw [hiff]; exact ⟨fun h => ⟨⟨hok, hin⟩, h⟩, fun h => h.2⟩⟩
        have ht : idsJ (l.take (n + 1)) = idsJ (l.take n) ++ [l[n].f0] := by
          unfold idsJ
          rw [List.take_add_one, List.getElem?_eq_getElem hn, List.map_append]; rfl
        rw [iLine_step l hl a0 A B C hs n hn, if_pos hok, if_neg (fun h => hin ((mlook_true _ _).1 h)), mput_true _ _ hin, ht]
    · refine ⟨false, Ev.next (f := fun _ => some false) (Ev.now _) fun k => ?_, by simp [hok]⟩
      rw [iLine_step l hl a0 A B C hs n hn, if_neg hok]
theorem iLine_ev (a0 : Int) (A B C : List S38) (h : A.length + B.length + C.length ≤ 1048576) : ∃ b, Ev (fun k => impl_LineOk.f k a0 A B C) b ∧ (b = true ↔ lineP a0 A B C) := by
  obtain ⟨b, hb, hiff⟩ := iLine_loop (A ++ B ++ C) (by simp only [List.length_append]; omega) a0 A B C h 0 (by omega)
  rw [fromJ_zero] at hiff
  have hj : ∀ t : Bool, Ev (fun k => impl_LineOk.j0 k t a0 A B C) (!t && b) := by
    intro t
    cases t with
    | true => exact Ev.next (f := fun _ => some false) (Ev.now _) fun k => by simp [impl_LineOk.j0]
    | false =>
      refine Ev.to (Ev.next (Ev.bind (jobs_ev a0 A B C h) (f := fun k t192 => impl_LineOk.l0 k t192 (t192.length : Int) 0 a0 A B C ([] : List (Int × Bool))) hb) fun k => ?_) (by simp)
      simp only [impl_LineOk.j0]
      rw [if_neg (by decide)]
  unfold impl_LineOk.f lineP
  simp only [within_eq, Option.bind_some]
  by_cases c1 : 1 ≤ a0 ∧ a0 ≤ 16
  · simp only [decide_eq_true c1, if_true]
    refine ⟨_, Ev.bind (jobs_ev a0 A B C h) (f := fun k t188 => impl_LineOk.j0 k (decide ((t188.length : Int) > a0)) a0 A B C) (hj _), ?_⟩
    rw [Bool.and_eq_true, hiff, Bool.not_eq_true', decide_eq_false_iff_not, List.length_append, List.length_append]
    constructor
    · rintro ⟨h1, h2⟩; exact ⟨c1, by omega, h2⟩
    · rintro ⟨h1, h2, h3⟩; exact ⟨by omega, h3⟩
  · simp only [decide_eq_false c1]
    exact ⟨_, hj true, by simp; omega⟩
theorem bool_same {a b : Bool} {p : Prop} (ha : a = true ↔ p) (hb : b = true ↔ p) : a = b := by
  cases a <;> cases b <;> simp_all

/-- A job that is marked from k on. -/
def jobAt (k : Int) (i : Nat) : S38 := ⟨k + 4 * (i : Int), ⟨k + 4 * (i : Int) + 1, k + 4 * (i : Int) + 2, k + 4 * (i : Int) + 3⟩⟩
def marksJ (k : Int) (n : Nat) : List S38 := (List.range n).map (jobAt k)
theorem marksJ_len (k : Int) (n : Nat) : (marksJ k n).length = n := by simp [marksJ]
theorem marksJ_next (k : Int) (n : Nat) : marksJ k (n + 1) = marksJ k n ++ [jobAt k n] := by simp [marksJ, List.range_succ]
theorem marksJ_at (k : Int) {n i : Nat} (h : i < n) : (marksJ k n)[i]'(by rw [marksJ_len]; exact h) = jobAt k i := by simp [marksJ]
theorem rdJ_set (l : List S38) (n : Nat) (h : n < l.length) (v : S38) : rd_T38 (l.set n v) (n : Int) = v := by
  rw [rdJ_nat _ n (by simpa using h)]; simp
theorem markJobs_loop (k0 : Int) (h0 : 0 ≤ k0) (m : Nat) (hm : m ≤ 1048576) (hk : k0 ≤ 1000000000) : ∀ n, n ≤ m → ∀ acc : List S38, acc.length = m → acc.take n = marksJ k0 n → Ev (fun k => laws_markJobS.l0 k acc (k0 + 4 * (n : Int)) (n : Int)) (k0 + 4 * (m : Int), marksJ k0 m) := by
  refine down ?_ ?_
  · intro acc ha ht
    have e : acc = marksJ k0 m := by rw [List.take_of_length_le (by omega)] at ht; exact ht
    subst e
    refine Ev.next (f := fun _ => some _) (Ev.now _) fun k => ?_
    simp only [laws_markJobS.l0]; rw [if_neg (by omega)]
  · intro n hn ih acc ha ht
    refine Ev.next (ih (acc.set n (jobAt k0 n)) (by simpa using ha) ?_) fun k => ?_
    · rw [marksJ_next, List.take_set, List.take_add_one, ht, List.getElem?_eq_getElem (by omega)]
      simp only [Option.toList_some]
      rw [List.set_append_right _ _ (by rw [marksJ_len]; omega), marksJ_len]
      simp
    · simp only [laws_markJobS.l0, Option.bind_some, Int.toNat_natCast]
      rw [if_pos (by omega), if_pos (by omega), rdJ_nat acc n (by omega), rdJ_set _ n (by first | omega | (simp only [List.length_set]; omega)), List.set_set, rdJ_set _ n (by first | omega | (simp only [List.length_set]; omega)), List.set_set, rdJ_set _ n (by first | omega | (simp only [List.length_set]; omega)), List.set_set, wrap_id (x := k0 + 4 * (n : Int) + 1) (by omega) (by omega), wrap_id (x := k0 + 4 * (n : Int) + 1 + 1) (by omega) (by omega), wrap_id (x := k0 + 4 * (n : Int) + 1 + 1 + 1) (by omega) (by omega), wrap_id (x := k0 + 4 * (n : Int) + 1 + 1 + 1 + 1) (by omega) (by omega), wrap_succ (by omega)]
      rw [show k0 + 4 * (n : Int) + 1 + 1 + 1 + 1 = k0 + 4 * ((n + 1 : Nat) : Int) by omega, show k0 + 4 * (n : Int) + 1 + 1 + 1 = k0 + 4 * (n : Int) + 3 by omega, show k0 + 4 * (n : Int) + 1 + 1 = k0 + 4 * (n : Int) + 2 by omega]
      rfl
theorem markJobs_ev (l : List S38) (hl : l.length ≤ 1048576) (k0 : Int) (h0 : 0 ≤ k0) (hk : k0 ≤ 1000000000) : Ev (fun k => laws_markJobS.f k l k0) (k0 + 4 * (l.length : Int), marksJ k0 l.length) := by
  have := markJobs_loop k0 h0 l.length hl hk 0 (by omega) l rfl rfl
  exact Ev.congr (fun k => by unfold laws_markJobS.f; simp) this
theorem heldJobs_loop (k0 : Int) (h0 : 0 ≤ k0) (m : Nat) (hm : m ≤ 1048576) (hk : k0 ≤ 1000000000) : ∀ n, n ≤ m → Ev (fun k => laws_heldJobS.l0 k (marksJ k0 m) (k0 + 4 * (n : Int)) (n : Int)) (k0 + 4 * (m : Int)) := by
  have hl := marksJ_len k0 m
  refine down ?_ ?_
  · refine Ev.next (f := fun _ => some _) (Ev.now _) fun k => ?_
    simp only [laws_heldJobS.l0]; rw [if_neg (by omega)]
  · intro n hn ih
    refine Ev.next ih fun k => ?_
    simp only [laws_heldJobS.l0]
    rw [if_pos (by omega), if_pos (by omega), rdJ_nat _ n (by omega), marksJ_at k0 hn, wrap_id (x := k0 + 4 * (n : Int) + 1) (by omega) (by omega), wrap_id (x := k0 + 4 * (n : Int) + 1 + 1) (by omega) (by omega), wrap_id (x := k0 + 4 * (n : Int) + 1 + 1 + 1) (by omega) (by omega), wrap_id (x := k0 + 4 * (n : Int) + 1 + 1 + 1 + 1) (by omega) (by omega), wrap_succ (by omega)]
    unfold jobAt
    simp only [if_true]
    rw [if_pos (by omega), if_pos (by omega), show k0 + 4 * (n : Int) + 1 + 1 + 1 + 1 = k0 + 4 * ((n + 1 : Nat) : Int) by omega]
theorem heldJobs_ev (m : Nat) (hm : m ≤ 1048576) (k0 : Int) (h0 : 0 ≤ k0) (hk : k0 ≤ 1000000000) : Ev (fun k => laws_heldJobS.f k (marksJ k0 m) k0) (k0 + 4 * (m : Int)) := by
  have := heldJobs_loop k0 h0 m hm hk 0 (by omega)
  exact Ev.congr (fun k => by unfold laws_heldJobS.f; simp) this
def endJ (a b c : Nat) : Int := 1 + 4 * (a : Int) + 4 * (b : Int) + 4 * (c : Int)
theorem markLine_ev (a0 : Int) (A B C : List S38) (h : A.length + B.length + C.length ≤ 1048576) : Ev (fun k => laws_markLine.f k a0 A B C 1) (endJ A.length B.length C.length, marksJ 1 A.length, marksJ (1 + 4 * (A.length : Int)) B.length, marksJ (1 + 4 * (A.length : Int) + 4 * (B.length : Int)) C.length) := by
  unfold laws_markLine.f
  exact Ev.bind (markJobs_ev A (by omega) 1 (by omega) (by omega)) (Ev.bind (markJobs_ev B (by omega) _ (by omega) (by omega)) (Ev.bind (markJobs_ev C (by omega) _ (by omega) (by omega)) (Ev.now _)))
theorem heldLine_ev (a0 : Int) (a b c : Nat) (h : a + b + c ≤ 1048576) : Ev (fun k => laws_heldLine.f k a0 (marksJ 1 a) (marksJ (1 + 4 * (a : Int)) b) (marksJ (1 + 4 * (a : Int) + 4 * (b : Int)) c) 1) (endJ a b c) := by
  unfold laws_heldLine.f
  refine Ev.bind (heldJobs_ev a (by omega) 1 (by omega) (by omega)) ?_
  simp only [if_neg (show ¬ (1 + 4 * (a : Int)) < 0 by omega)]
  refine Ev.bind (heldJobs_ev b (by omega) _ (by omega) (by omega)) ?_
  simp only [if_neg (show ¬ (1 + 4 * (a : Int) + 4 * (b : Int)) < 0 by omega)]
  refine Ev.bind (heldJobs_ev c (by omega) _ (by omega) (by omega)) ?_
  simp only [if_neg (show ¬ (1 + 4 * (a : Int) + 4 * (b : Int) + 4 * (c : Int)) < 0 by omega)]
  exact Ev.now _

def costM (a b c : Int) : Bool := decide ((1 ≤ a ∧ a ≤ 1000) ∧ (1 ≤ b ∧ b ≤ 1000) ∧ (1 ≤ c ∧ c ≤ 1000))
/-- What a put answers, given whether the line is one. -/
def putM (b : Bool) (cap : Int) (A B C : List S38) (i x y z : Int) : Int × List S38 × List S38 × List S38 × Int :=
  if (b && (costM x y z && decide (0 ≤ i ∧ i ≤ 1000000000000))) = true then
    (if i ∈ idsJ (A ++ B ++ C) then (0, [], [], [], 2) else if ((A.length + B.length + C.length : Nat) : Int) = cap then (0, [], [], [], 3) else (cap, A ++ [⟨i, ⟨x, y, z⟩⟩], B, C, 0))
  else (0, [], [], [], 1)
theorem sCost_eq (a b c : Int) : spec_CostOk.f a b c = some (costM a b c) := by
  have hv : spec_l13All.f a b c 1 1000 = some (costM a b c) := by
    unfold spec_l13All.f costM
    repeat' split
    all_goals (congr 1; first | exact dec_iff (by omega) | exact dec_false (by omega) | exact dec_true (by omega))
  unfold spec_CostOk.f
  rw [hv]; rfl
theorem sCopy_eq (a0 : Int) (A B C : List S38) (h : A.length + B.length + C.length ≤ 1048576) : spec_l21Copy.f a0 A B C = some (a0, A, B, C) := by
  unfold spec_l21Copy.f
  simp only [Option.bind_some, List.nil_append, List.length_nil]
  rw [if_pos (by omega), if_pos (by omega), if_pos (by omega)]
theorem iCopy_eq (a0 : Int) (A B C : List S38) (h : A.length + B.length + C.length ≤ 1048576) : impl_copyLine.f a0 A B C = some (a0, A, B, C) := by
  have hc : ∀ l : List S38, l.length ≤ 1048576 → slices_Clone_impl_Job_impl_Job.f l = some l := by
    intro l hl
    unfold slices_Clone_impl_Job_impl_Job.f
    simp only [Option.bind_some, List.nil_append, List.length_nil]
    rw [if_pos (by omega)]
  unfold impl_copyLine.f
  rw [hc A (by omega), hc B (by omega), hc C (by omega)]; rfl
theorem sPut_loop (l : List S38) (hl : l.length ≤ 1048576) (cap : Int) (A B C : List S38) (h : A.length + B.length + C.length ≤ 1048576) (i x y z : Int) : ∀ n, n ≤ l.length →
    Ev (fun k => spec_LinePut.l0 k l (n : Int) cap A B C i x y z) (if i ∈ idsJ (l.drop n) then (0, [], [], [], 2) else if (l.length : Int) = cap then (0, [], [], [], 3) else (cap, A ++ [⟨i, ⟨x, y, z⟩⟩], B, C, 0)) := by
  refine down ?_ ?_
  · rw [List.drop_length]
    simp only [idsJ, List.map_nil, List.not_mem_nil, if_false]
    by_cases hc : (l.length : Int) = cap
    · rw [if_pos hc]
      refine Ev.next (f := fun _ => some _) (Ev.now _) fun k => ?_
      simp only [spec_LinePut.l0]; rw [if_neg (by omega), if_pos hc]
    · rw [if_neg hc]
      refine Ev.next (f := fun _ => some _) (Ev.now _) fun k => ?_
      simp only [spec_LinePut.l0]; rw [if_neg (by omega), if_neg hc, sCopy_eq _ _ _ _ h, Option.bind_some]
      dsimp only
      rw [if_pos (by omega)]
  · intro n hn ih
    have hd : idsJ (l.drop n) = l[n].f0 :: idsJ (l.drop (n + 1)) := by rw [List.drop_eq_getElem_cons hn]; rfl
    rw [hd]
    by_cases he : l[n].f0 = i
    · rw [if_pos (by rw [he]; exact List.mem_cons_self)]
      refine Ev.next (f := fun _ => some _) (Ev.now _) fun k => ?_
      simp only [spec_LinePut.l0]; rw [if_pos (by omega), if_pos (by omega), rdJ_nat l n hn, if_pos he]
    · have hm : (i ∈ l[n].f0 :: idsJ (l.drop (n + 1))) ↔ i ∈ idsJ (l.drop (n + 1)) := by
        rw [List.mem_cons]; exact ⟨fun h => h.resolve_left (fun e => he e.symm), .inr⟩
      simp only [hm]
      refine Ev.next ih fun k => ?_
      simp only [spec_LinePut.l0]; rw [if_pos (by omega), if_pos (by omega), rdJ_nat l n hn, if_neg he, wrap_succ (by omega)]
theorem sPut_ev (cap : Int) (A B C : List S38) (h : A.length + B.length + C.length ≤ 1048576) (i x y z : Int) {b : Bool} (hb : Ev (fun k => spec_LineOk.f k cap A B C) b) : Ev (fun k => spec_LinePut.f k cap A B C i x y z) (putM b cap A B C i x y z) := by
  have hj : ∀ t : Bool, Ev (fun k => spec_LinePut.j0 k t cap A B C i x y z) (if t = true then (0, [], [], [], 1) else if i ∈ idsJ (A ++ B ++ C) then (0, [], [], [], 2) else if ((A.length + B.length + C.length : Nat) : Int) = cap then (0, [], [], [], 3) else (cap, A ++ [⟨i, ⟨x, y, z⟩⟩], B, C, 0)) := by
    intro t
    cases t with
    | true => exact Ev.next (f := fun _ => some _) (Ev.now _) fun k => by simp [spec_LinePut.j0]
    | false =>
      have hl : (C ++ B ++ A).length = A.length + B.length + C.length := by simp only [List.length_append]; omega
      have hm : (i ∈ idsJ ((C ++ B ++ A).drop 0)) ↔ i ∈ idsJ (A ++ B ++ C) := by
        simp only [List.drop_zero, idsJ, List.map_append, List.mem_append]
        constructor <;> (rintro ((h | h) | h) <;> simp [h])
      have := sPut_loop (C ++ B ++ A) (by omega) cap A B C h i x y z 0 (by omega)
      simp only [hm, hl] at this
      refine Ev.to (Ev.next this fun k => ?_) (by simp)
      simp only [spec_LinePut.j0]
      rw [if_neg (by decide), sAll_l cap A B C h, Option.bind_some]; rfl
  unfold spec_LinePut.f putM
  refine Ev.bind hb ?_
  cases b with
  | false => simp only [if_neg (show ¬ (false = true) by decide)]; exact Ev.to (hj true) (by simp)
  | true =>
    simp only [if_true, sCost_eq, Option.bind_some, Bool.true_and]
    cases costM x y z with
    | false => simp only [if_neg (show ¬ (false = true) by decide)]; exact Ev.to (hj true) (by simp)
    | true =>
      simp only [if_true, Bool.true_and]
      by_cases h0 : i < 0
      · simp only [if_pos h0]
        exact Ev.to (hj true) (by rw [if_pos rfl, if_neg (by rw [decide_eq_false (show ¬ (0 ≤ i ∧ i ≤ 1000000000000) by omega)]; decide)])
      · simp only [if_neg h0]
        refine Ev.to (hj _) ?_
        by_cases h1 : i > 1000000000000
        · rw [decide_eq_true h1, if_pos rfl, if_neg (by rw [decide_eq_false (show ¬ (0 ≤ i ∧ i ≤ 1000000000000) by omega)]; decide)]
        · rw [decide_eq_false h1, decide_eq_true (show 0 ≤ i ∧ i ≤ 1000000000000 by omega), if_neg (by decide), if_pos (rfl : true = true)]
theorem idx_loop (l : List S38) (hl : l.length ≤ 1048576) (i x y z : Int) : ∀ n, n ≤ l.length → ∃ r : Int, Ev (fun k => slices_IndexFunc_impl_Job_impl_Job.l0 k l (fun z0_ z1_ z2_ z3_ => impl_LinePut_1.f z0_ z1_ z2_ z3_ i x y z) (l.length : Int) (n : Int)) r ∧ (r ≥ 0 ↔ i ∈ idsJ (l.drop n)) := by
  refine down ?_ ?_
  · refine ⟨-1, Ev.next (f := fun _ => some (-1)) (Ev.now _) fun k => ?_, by rw [List.drop_length]; simp [idsJ]⟩
    simp only [slices_IndexFunc_impl_Job_impl_Job.l0]; rw [if_neg (by omega)]
  · rintro n hn ⟨r, hr, hiff⟩
    have hd : idsJ (l.drop n) = l[n].f0 :: idsJ (l.drop (n + 1)) := by rw [List.drop_eq_getElem_cons hn]; rfl
    rw [hd, List.mem_cons]
    by_cases he : l[n].f0 = i
    · refine ⟨(n : Int), Ev.next (f := fun _ => some (n : Int)) (Ev.now _) fun k => ?_, by simp [he]⟩
      simp only [slices_IndexFunc_impl_Job_impl_Job.l0, impl_LinePut_1.f, Option.bind_some]
      rw [if_pos (by omega), if_pos (by omega), if_pos (by omega), rdJ_nat l n hn, if_pos (by rw [he]; simp)]
    · refine ⟨r, Ev.next hr fun k => ?_, by rw [hiff]; exact ⟨.inr, fun h => h.resolve_left (fun e => he e.symm)⟩⟩
      simp only [slices_IndexFunc_impl_Job_impl_Job.l0, impl_LinePut_1.f, Option.bind_some]
      rw [if_pos (by omega), if_pos (by omega), if_pos (by omega), rdJ_nat l n hn, if_neg (by simpa using he), wrap_succ (by omega)]
theorem iPut_ev (cap : Int) (A B C : List S38) (h : A.length + B.length + C.length ≤ 1048576) (i x y z : Int) {b : Bool} (hb : Ev (fun k => impl_LineOk.f k cap A B C) b) : Ev (fun k => impl_LinePut.f k cap A B C i x y z) (putM b cap A B C i x y z) := by
  have hj : ∀ t : Bool, Ev (fun k => impl_LinePut.j0 k t cap A B C i x y z) (if t = true then (0, [], [], [], 1) else if i ∈ idsJ (A ++ B ++ C) then (0, [], [], [], 2) else if ((A.length + B.length + C.length : Nat) : Int) = cap then (0, [], [], [], 3) else (cap, A ++ [⟨i, ⟨x, y, z⟩⟩], B, C, 0)) := by
    intro t
    cases t with
    | true => exact Ev.next (f := fun _ => some _) (Ev.now _) fun k => by simp [impl_LinePut.j0]
    | false =>
      have hl : (A ++ B ++ C).length = A.length + B.length + C.length := by simp only [List.length_append]
      obtain ⟨r, hr, hiff⟩ := idx_loop (A ++ B ++ C) (by omega) i x y z 0 (by omega)
      rw [List.drop_zero] at hiff
      have hc : Ev (fun k => slices_ContainsFunc_impl_Job_impl_Job.f k (A ++ B ++ C) (fun z0_ z1_ z2_ z3_ => impl_LinePut_1.f z0_ z1_ z2_ z3_ i x y z)) (decide (r ≥ 0)) := by
        unfold slices_ContainsFunc_impl_Job_impl_Job.f slices_IndexFunc_impl_Job_impl_Job.f
        exact Ev.bind hr (f := fun _ t => some (decide (t ≥ 0))) (Ev.now _)
      refine Ev.next (f := fun k => (impl_Line_jobs.f k cap A B C).bind fun t277 => ((slices_ContainsFunc_impl_Job_impl_Job.f k t277 (fun z0_ z1_ z2_ z3_ => impl_LinePut_1.f z0_ z1_ z2_ z3_ i x y z)).bind fun t280 => (if t280 = true then (some (0, ([] : List S38), ([] : List S38), ([] : List S38), 2)) else ((impl_Line_jobs.f k cap A B C).bind fun t281 => (if (t281.length : Int) = cap then (some (0, ([] : List S38), ([] : List S38), ([] : List S38), 3)) else ((impl_copyLine.f cap A B C).bind fun bt284 => (if bt284.2.1.length < 4398046511104 then (some (bt284.1, (bt284.2.1 ++ [(⟨i, (⟨x, y, z⟩ : S36)⟩ : S38)]), bt284.2.2.1, bt284.2.2.2, 0)) else (none)))))))) ?_ fun k => by simp only [impl_LinePut.j0]; rw [if_neg (by decide)]
      refine Ev.bind (jobs_ev cap A B C h) (Ev.bind hc ?_)
      rw [if_neg (by decide)]
      by_cases hin : i ∈ idsJ (A ++ B ++ C)
      · simp only [decide_eq_true (hiff.2 hin), if_true, if_pos hin]; exact Ev.now _
      · simp only [decide_eq_false (fun hr => hin (hiff.1 hr)), if_neg (show ¬ (false = true) by decide), if_neg hin]
        refine Ev.bind (jobs_ev cap A B C h) ?_
        rw [hl]
        by_cases hcap : ((A.length + B.length + C.length : Nat) : Int) = cap
        · simp only [if_pos hcap]; exact Ev.now _
        · simp only [if_neg hcap, iCopy_eq _ _ _ _ h, Option.bind_some]
          rw [if_pos (by omega)]; exact Ev.now _
  unfold impl_LinePut.f putM
  refine Ev.bind hb ?_
  cases b with
  | false => simp only [if_neg (show ¬ (false = true) by decide)]; exact Ev.to (hj true) (by simp)
  | true =>
    simp only [if_true, costOk_eq, Option.bind_some, Bool.true_and]
    have ec : decide ((1 ≤ x ∧ x ≤ 1000) ∧ (1 ≤ y ∧ y ≤ 1000) ∧ (1 ≤ z ∧ z ≤ 1000)) = costM x y z := rfl
    rw [ec]
    cases costM x y z with
    | false => simp only [if_neg (show ¬ (false = true) by decide)]; exact Ev.to (hj true) (by simp)
    | true =>
      simp only [if_true, within_eq, Option.bind_some, Bool.true_and]
      refine Ev.to (hj _) ?_
      by_cases h1 : 0 ≤ i ∧ i ≤ 1000000000000
      · rw [decide_eq_true h1, if_neg (by decide), if_pos rfl]
      · rw [decide_eq_false h1, if_pos (by decide), if_neg (by decide)]
theorem putM_len (b : Bool) (cap : Int) (A B C : List S38) (i x y z : Int) (hb : b = true ↔ lineP cap A B C) : (putM b cap A B C i x y z).2.1.length + (putM b cap A B C i x y z).2.2.1.length + (putM b cap A B C i x y z).2.2.2.1.length ≤ 1048576 := by
  unfold putM
  by_cases c : (b && (costM x y z && decide (0 ≤ i ∧ i ≤ 1000000000000))) = true
  · rw [if_pos c]
    rw [Bool.and_eq_true] at c
    have hp := hb.1 c.1
    have h1 := hp.1.2
    have h2 := hp.2.1
    repeat' split
    all_goals simp
    omega
  · rw [if_neg c]; simp

theorem FnExactLinePut : laws_FnExactLinePut.Pure := by
  intro y0 y1 hy0 _
  refine Ev.rounds ?_
  obtain ⟨s, hs, hd⟩ := szLine_eq y0.f0 y0.f1 y0.f2 y0.f3 hy0.2.1.1 hy0.2.2.1.1 hy0.2.2.2.1
  have hJ : laws_toJob.f y1.f0 y1.f1.f0 y1.f1.f1 y1.f1.f2 = some (y1.f0, y1.f1.f0, y1.f1.f1, y1.f1.f2) := rfl
  unfold laws_FnExactLinePut.f
  simp only [hs, Option.bind_some]
  by_cases hn : s < 0
  · exact Ev.now' fun k => if_pos hn
  · simp only [if_neg hn]
    have hd : y0.f1.length + y0.f2.length + y0.f3.length ≤ 1048576 := by omega
    have hT := toLine_ev y0.f0 y0.f1 y0.f2 y0.f3 hd
    have h1 : (y0.f1.map toJ).length + (y0.f2.map toJ).length + (y0.f3.map toJ).length ≤ 1048576 := by simpa using hd
    obtain ⟨b, hb, eb⟩ := sLine_ev y0.f0 _ _ _ h1
    obtain ⟨c, hc, ec⟩ := iLine_ev y0.f0 _ _ _ h1
    obtain rfl := bool_same eb ec
    have hS := sPut_ev y0.f0 _ _ _ h1 y1.f0 y1.f1.f0 y1.f1.f1 y1.f1.f2 hb
    have hI := iPut_ev y0.f0 _ _ _ h1 y1.f0 y1.f1.f0 y1.f1.f1 y1.f1.f2 hc
    have hP := putM_len b y0.f0 _ _ _ y1.f0 y1.f1.f0 y1.f1.f1 y1.f1.f2 eb
    generalize putM b y0.f0 (y0.f1.map toJ) (y0.f2.map toJ) (y0.f3.map toJ) y1.f0 y1.f1.f0 y1.f1.f1 y1.f1.f2 = q at hS hI hP
    obtain ⟨q0, qA, qB, qC, qe⟩ := q
    refine Ev.bind hT ?_
    simp only [hJ, Option.bind_some]
    refine Ev.bind hS (Ev.bind hT ?_)
    simp only [Option.bind_some]
    refine Ev.bind hI (Ev.bind (eqLine_ev q0 qA qB qC hP) ?_)
    simp only [if_true, bne_self_eq_false]
    refine Ev.next (f := fun k => (laws_toLine.f k y0.f0 y0.f1 y0.f2 y0.f3).bind fun bt387 => ((laws_eqLine.f k y0.f0 (y0.f1.map toJ) (y0.f2.map toJ) (y0.f3.map toJ) bt387.1 bt387.2.1 bt387.2.2.1 bt387.2.2.2).bind fun t397 => (if t397 = true then ((laws_markLine.f k y0.f0 (y0.f1.map toJ) (y0.f2.map toJ) (y0.f3.map toJ) 1).bind fun bt398 => (if bt398.1 < 0 then (laws_FnExactLinePut.j1 k qe true y0.f0 y0.f1 y0.f2 y0.f3 y1.f0 y1.f1.f0 y1.f1.f1 y1.f1.f2 q0 qA qB qC q0 qA qB qC) else ((laws_eqLine.f k q0 qA qB qC q0 qA qB qC).bind fun t402 => (if t402 = true then (laws_FnExactLinePut.j1 k qe (qe != qe) y0.f0 y0.f1 y0.f2 y0.f3 y1.f0 y1.f1.f0 y1.f1.f1 y1.f1.f2 q0 qA qB qC q0 qA qB qC) else (laws_FnExactLinePut.j1 k qe true y0.f0 y0.f1 y0.f2 y0.f3 y1.f0 y1.f1.f0 y1.f1.f1 y1.f1.f2 q0 qA qB qC q0 qA qB qC))))) else (some false)))) ?_ fun k => by simp only [laws_FnExactLinePut.j0]; rw [if_neg (by decide)]
    refine Ev.bind hT (Ev.bind (eqLine_ev _ _ _ _ h1) ?_)
    simp only [if_true]
    refine Ev.bind (markLine_ev _ _ _ _ h1) ?_
    simp only [if_neg (show ¬ endJ (y0.f1.map toJ).length (y0.f2.map toJ).length (y0.f3.map toJ).length < 0 by unfold endJ; omega)]
    refine Ev.bind (eqLine_ev q0 qA qB qC hP) ?_
    simp only [if_true, bne_self_eq_false]
    refine Ev.next (f := fun k => (laws_markLine.f k q0 qA qB qC 1).bind fun bt403 => ((laws_heldLine.f k q0 bt403.2.1 bt403.2.2.1 bt403.2.2.2 1).bind fun t407 => (if t407 < 0 then (some false) else (if t407 = bt403.1 then ((laws_toLine.f k y0.f0 y0.f1 y0.f2 y0.f3).bind fun bt408 => ((laws_toJob.f y1.f0 y1.f1.f0 y1.f1.f1 y1.f1.f2).bind fun bt418 => ((impl_LinePut.f k bt408.1 bt408.2.1 bt408.2.2.1 bt408.2.2.2 bt418.1 bt418.2.1 bt418.2.2.1 bt418.2.2.2).bind fun bt422 => ((laws_eqLine.f k bt422.1 bt422.2.1 bt422.2.2.1 bt422.2.2.2.1 q0 qA qB qC).bind fun t434 => (if t434 = true then (laws_FnExactLinePut.j2 k bt403.1 (bt422.2.2.2.2 != qe) q0 bt403.2.1 bt403.2.2.1 bt403.2.2.2) else (laws_FnExactLinePut.j2 k bt403.1 true q0 bt403.2.1 bt403.2.2.1 bt403.2.2.2)))))) else (some false))))) ?_ fun k => by simp only [laws_FnExactLinePut.j1]; rw [if_neg (by decide)]
    have hP' : qA.length + qB.length + qC.length ≤ 1048576 := hP
    refine Ev.bind (markLine_ev q0 qA qB qC hP') (Ev.bind (heldLine_ev q0 _ _ _ hP') ?_)
    have he : ¬ endJ qA.length qB.length qC.length < 0 := by unfold endJ; omega
    simp only [if_neg he, if_true, hJ, Option.bind_some]
    refine Ev.bind hT (Ev.bind hI (Ev.bind (eqLine_ev q0 qA qB qC hP) ?_))
    simp only [if_true, bne_self_eq_false]
    refine Ev.next (f := fun k => (laws_heldLine.f k q0 (marksJ 1 qA.length) (marksJ (1 + 4 * (qA.length : Int)) qB.length) (marksJ (1 + 4 * (qA.length : Int) + 4 * (qB.length : Int)) qC.length) 1).bind fun t435 => (if t435 < 0 then (some false) else (if t435 = endJ qA.length qB.length qC.length then (some true) else (some false)))) ?_ fun k => by simp only [laws_FnExactLinePut.j2]; rw [if_neg (by decide)]
    refine Ev.bind (heldLine_ev q0 _ _ _ hP') ?_
    exact Ev.now' fun k => by rw [if_neg he, if_pos rfl]

end Go.Proofs.Ytcdangcjbijfkab.Pure
