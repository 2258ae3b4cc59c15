/- The program's WorstSpan returns what the reference's WorstSpan returns, for every log and pair of members (logs of which the law's own count speaks: any other answers true at once). No condition. -/
import Derived.Test.YtecabogkenabnaaPFnExactWorstSpanx10
namespace Go.Proofs.Ytecabogkenabnaa.Pure
open Go.RowKit Go.Proofs.Ytecabogkenabnaa.PFnExactWorstSpan Go.Proofs.YtecabogkenabnaaW.PrintWords Go.Proofs.YtecabogkenabnaaW.PrintLast Go.Proofs.YtecabogkenabnaaW.PrintMore Go.Proofs.YtecabogkenabnaaV
set_option linter.unusedVariables false
set_option linter.unusedSimpArgs false

theorem down {N : Nat} {P : Nat → Prop} (h0 : P N) (hs : ∀ n, n < N → P (n + 1) → P n) : ∀ n, n ≤ N → P n := by
  intro n hn
  obtain ⟨d, rfl⟩ : ∃ d, N = n + d := ⟨N - n, by omega⟩
  clear hn
  induction d generalizing n with
  | zero => exact h0
  | succ d ih => exact hs n (by omega) (ih (n + 1) (by rw [show n + 1 + d = n + (d + 1) by omega]; exact h0) (fun m hm hp => hs m (by omega) hp))

theorem wrap_id {x : Int} (h1 : -9223372036854775808 ≤ x) (h2 : x ≤ 9223372036854775807) : wrap64 x = x := by
  unfold wrap64; omega

theorem wrap_succ {n : Nat} (h : n < 4611686018427387904) : wrap64 ((n : Int) + 1) = ((n + 1 : Nat) : Int) := by
  rw [wrap_id (by omega) (by omega)]; omega

theorem wrap_pred {n : Nat} (h0 : 0 < n) (h : n < 4611686018427387904) : wrap64 ((n : Int) - 1) = ((n - 1 : Nat) : Int) := by
  rw [wrap_id (by omega) (by omega)]; omega

theorem getD_lt {α : Type} {l : List α} {n : Nat} (d : α) (h : n < l.length) : l.getD n d = l[n] := by
  rw [List.getD_eq_getElem?_getD, List.getElem?_eq_getElem h]; rfl

theorem rd_nat (l : List Int) (n : Nat) : rd l (n : Int) = l.getD n 0 := by
  unfold rd; simp

theorem Ev.now' {α : Type} {g : Nat → Option α} {r : α} (h : ∀ k, g k = some r) : Ev g r := ⟨0, fun k _ => h k⟩

/-- One round, and what follows. -/
theorem Ev.next {α : Type} {g f : Nat → Option α} {r : α} (k : Ev f r) (h : ∀ k, g (k + 1) = f k) : Ev g r := Ev.step h k

theorem Ev.to {α : Type} {g : Nat → Option α} {r q : α} (h : Ev g r) (e : r = q) : Ev g q := e ▸ h

theorem list_drop_cons {α : Type} {l : List α} {n : Nat} (h : n < l.length) : l.drop n = l[n] :: l.drop (n + 1) := List.drop_eq_getElem_cons h

theorem mem_drop {α : Type} {l : List α} {n : Nat} (h : n < l.length) {x : α} : x ∈ l.drop n ↔ x = l[n] ∨ x ∈ l.drop (n + 1) := by
  rw [List.drop_eq_getElem_cons h, List.mem_cons]

theorem any_drop {α : Type} {l : List α} {n : Nat} (h : n < l.length) (q : α → Bool) : (l.drop n).any q = (q l[n] || (l.drop (n + 1)).any q) := by
  rw [List.drop_eq_getElem_cons h, List.any_cons]

theorem all_drop {α : Type} {l : List α} {n : Nat} (h : n < l.length) (q : α → Bool) : (l.drop n).all q = (q l[n] && (l.drop (n + 1)).all q) := by
  rw [List.drop_eq_getElem_cons h, List.all_cons]

theorem dec_false {p : Prop} [Decidable p] (h : ¬ p) : false = decide p := (decide_eq_false h).symm
theorem dec_true {p : Prop} [Decidable p] (h : p) : true = decide p := (decide_eq_true h).symm
theorem dec_iff {p q : Prop} [Decidable p] [Decidable q] (h : p ↔ q) : decide p = decide q := decide_eq_decide.2 h

theorem toInts_loop (l : List Int) (hl : l.length < 4611686018427387904) : ∀ n, n ≤ l.length → ∀ acc : List Int, acc.length = l.length → acc.take n = l.take n → Ev (fun k => laws_toIntS.l0 k l acc (n : Int)) l := by
  refine down ?_ ?_
  · intro acc ha ht
    have e : acc = l := by rw [List.take_of_length_le (by omega), List.take_of_length_le (by omega)] at ht; exact ht
    subst e
    refine Ev.next (f := fun _ => some acc) (Ev.now acc) fun k => ?_
    simp only [laws_toIntS.l0]; rw [if_neg (by omega)]
  · intro n hn ih acc ha ht
    refine Ev.next (ih (acc.set n l[n]) (by simpa using ha) ?_) fun k => ?_
    · rw [List.take_set, List.take_add_one, List.take_add_one, ht, List.getElem?_eq_getElem hn, List.getElem?_eq_getElem (by omega)]
      have hl' : (l.take n).length = n := by rw [List.length_take]; omega
      simp only [Option.toList_some]
      rw [List.set_append_right _ _ (by omega), hl']
      simp
    · simp only [laws_toIntS.l0]
      rw [if_pos (by omega), if_pos (by omega), if_pos (by omega), wrap_succ (by omega), rd_nat, getD_lt 0 hn, Int.toNat_natCast]

theorem toInts_ev (l : List Int) (hl : l.length ≤ 1048576) : Ev (fun k => laws_toIntS.f k l) l := by
  refine Ev.congr (fun k => ?_) (toInts_loop l (by omega) 0 (by omega) (List.replicate l.length 0) (by simp) (by simp))
  unfold laws_toIntS.f
  rw [if_pos (by omega), if_pos (by omega)]
  simp

theorem eqInts_loop (l : List Int) (hl : l.length < 4611686018427387904) : ∀ n, n ≤ l.length → Ev (fun k => laws_eqIntS.l0 k l l (n : Int)) true := by
  refine down ?_ ?_
  · refine Ev.next (f := fun _ => some true) (Ev.now true) fun k => ?_
    simp only [laws_eqIntS.l0]; rw [if_neg (by omega)]
  · intro n hn ih
    refine Ev.next ih fun k => ?_
    simp only [laws_eqIntS.l0]
    rw [if_pos (by omega), if_pos (by omega), if_pos (by omega), if_pos trivial, wrap_succ (by omega)]

theorem eqInts_ev (l : List Int) (hl : l.length < 4611686018427387904) : Ev (fun k => laws_eqIntS.f k l l) true := by
  refine Ev.congr (fun k => ?_) (eqInts_loop l hl 0 (by omega))
  unfold laws_eqIntS.f
  rw [if_pos rfl]; rfl

theorem rdLD_nat (l : List S37) (n : Nat) (h : n < l.length) : rd_T37 l (n : Int) = l[n] := by
  unfold rd_T37; rw [Int.toNat_natCast, getD_lt _ h]

theorem rdD_nat (l : List S41) (n : Nat) (h : n < l.length) : rd_T41 l (n : Int) = l[n] := by
  unfold rd_T41; rw [Int.toNat_natCast, getD_lt _ h]

/-- A deal as the program's own type has it. -/
def toD (x : S37) : S41 := ⟨x.f0, x.f1, ⟨x.f2.f0, x.f2.f1, x.f2.f2⟩, x.f3⟩

theorem szDeal_eq (a0 a1 a2 a3 a4 : Int) (l : List Int) (a : Int) (hl : l.length ≤ maxLen) (h0 : 0 ≤ a) (h1 : a ≤ 1048576) : laws_szDeal.f a0 a1 a2 a3 a4 l a = some (if a < l.length then -1 else a - l.length) := by
  have hm : maxLen = 9223372036854775807 := rfl
  unfold laws_szDeal.f laws_szIntS.f
  rw [wrap_id (by omega) (by omega)]
  by_cases h : a < l.length
  · rw [if_pos (by omega), if_pos h]; rfl
  · rw [if_neg (by omega), if_neg h]; simp only [Option.bind_some]; rw [if_neg (by omega)]

theorem szDeals_loop (l : List S37) (hl : l.length ≤ 1048576) (hx : ∀ x ∈ l, x.f3.length ≤ maxLen) : ∀ n, n ≤ l.length → ∀ a : Int, 0 ≤ a → a ≤ 1048576 →
    ∃ s, Ev (fun k => laws_szDealS.l0 k l a (n : Int)) s ∧ (s < 0 ∨ ∀ x ∈ l.drop n, x.f3.length ≤ 1048576) := by
  refine down ?_ ?_
  · intro a h0 h1
    refine ⟨a, Ev.next (f := fun _ => some a) (Ev.now a) fun k => ?_, .inr (by simp)⟩
    simp only [laws_szDealS.l0]; rw [if_neg (by omega)]
  · intro n hn ih a h0 h1
    have hxn : l[n].f3.length ≤ maxLen := hx _ (List.getElem_mem hn)
    by_cases h : a < l[n].f3.length
    · refine ⟨-1, Ev.next (f := fun _ => some (-1)) (Ev.now _) fun k => ?_, .inl (by omega)⟩
      simp only [laws_szDealS.l0]
      rw [if_pos (by omega), if_pos (by omega), rdLD_nat l n hn, szDeal_eq _ _ _ _ _ _ _ hxn h0 h1, if_pos h]
      rfl
    · obtain ⟨s, hs, hd⟩ := ih (a - l[n].f3.length) (by omega) (by omega)
      refine ⟨s, Ev.next hs fun k => ?_, hd.imp id fun hd x hx => ?_⟩
      · simp only [laws_szDealS.l0]
        rw [if_pos (by omega), if_pos (by omega), rdLD_nat l n hn, szDeal_eq _ _ _ _ _ _ _ hxn h0 h1, if_neg h]
        simp only [Option.bind_some]
        rw [if_neg (by omega), wrap_succ (by omega)]
      · rw [List.drop_eq_getElem_cons hn] at hx
        rcases List.mem_cons.1 hx with rfl | hx
        · omega
        · exact hd x hx

theorem szDeals_ev (l : List S37) (hl : l.length ≤ maxLen) (hx : ∀ x ∈ l, x.f3.length ≤ maxLen) :
    ∃ s, Ev (fun k => laws_szDealS.f k l 1048576) s ∧ (s < 0 ∨ (l.length ≤ 1048576 ∧ ∀ x ∈ l, x.f3.length ≤ 1048576)) := by
  have hm : maxLen = 9223372036854775807 := rfl
  by_cases h : (1048576 : Int) < l.length
  · refine ⟨-1, Ev.now' fun k => ?_, .inl (by omega)⟩
    unfold laws_szDealS.f
    rw [wrap_id (by omega) (by omega), if_pos (by omega)]
  · obtain ⟨s, hs, hd⟩ := szDeals_loop l (by omega) hx 0 (by omega) (1048576 - l.length) (by omega) (by omega)
    refine ⟨s, Ev.congr (fun k => ?_) hs, hd.imp id fun hd => ⟨by omega, by simpa using hd⟩⟩
    unfold laws_szDealS.f
    rw [wrap_id (by omega) (by omega), if_neg (by omega)]
    rfl

theorem toDeal_ev (x : S37) (hx : x.f3.length ≤ 1048576) : Ev (fun k => laws_toDeal.f k x.f0 x.f1 x.f2.f0 x.f2.f1 x.f2.f2 x.f3) (x.f0, x.f1, x.f2.f0, x.f2.f1, x.f2.f2, x.f3) := by
  unfold laws_toDeal.f laws_toVec.f
  exact Ev.bind (g := fun k => laws_toIntS.f k x.f3) (f := fun _ t => some (x.f0, x.f1, x.f2.f0, x.f2.f1, x.f2.f2, t)) (toInts_ev _ hx) (Ev.now _)

theorem toDeals_loop (l : List S37) (hl : l.length ≤ 1048576) (hx : ∀ x ∈ l, x.f3.length ≤ 1048576) : ∀ n, n ≤ l.length → ∀ acc : List S41, acc.length = l.length → acc.take n = (l.take n).map toD →
    Ev (fun k => laws_toDealS.l0 k l acc (n : Int)) (l.map toD) := by
  refine down ?_ ?_
  · intro acc ha ht
    have e : acc = l.map toD := by rw [List.take_of_length_le (by omega), List.take_of_length_le (by omega)] at ht; exact ht
    subst e
    refine Ev.next (f := fun _ => some (l.map toD)) (Ev.now _) fun k => ?_
    simp only [laws_toDealS.l0]; rw [if_neg (by omega)]
  · intro n hn ih acc ha ht
    have hxn : l[n].f3.length ≤ 1048576 := hx _ (List.getElem_mem hn)
    refine Ev.next (Ev.bind (toDeal_ev l[n] hxn) (f := fun k bt => laws_toDealS.l0 k l (acc.set n (⟨bt.1, bt.2.1, (⟨bt.2.2.1, bt.2.2.2.1, bt.2.2.2.2.1⟩ : S39), bt.2.2.2.2.2⟩ : S41)) ((n + 1 : Nat) : Int)) (ih (acc.set n (toD l[n])) (by simpa using ha) ?_)) fun k => ?_
    · have hl' : ((l.take n).map toD).length = n := by rw [List.length_map, List.length_take]; omega
      have hr : (l.take (n + 1)).map toD = (l.take n).map toD ++ [toD l[n]] := by rw [List.take_add_one, List.getElem?_eq_getElem hn, List.map_append]; rfl
      rw [hr, List.take_set, List.take_add_one, ht, List.getElem?_eq_getElem (by omega)]
      simp only [Option.toList_some]
      rw [List.set_append_right _ _ (by omega), hl']
      simp
    · simp only [laws_toDealS.l0]
      rw [if_pos (by omega), if_pos (by omega), rdLD_nat l n hn]
      simp only [if_pos (show (n : Int) < (acc.length : Int) by omega), wrap_succ (show n < 4611686018427387904 by omega), Int.toNat_natCast]

theorem toDeals_ev (l : List S37) (hl : l.length ≤ 1048576) (hx : ∀ x ∈ l, x.f3.length ≤ 1048576) : Ev (fun k => laws_toDealS.f k l) (l.map toD) := by
  refine Ev.congr (fun k => ?_) (toDeals_loop l hl hx 0 (by omega) (List.replicate l.length z41) (by simp) (by simp))
  unfold laws_toDealS.f
  rw [if_pos (by omega), if_pos (by omega)]
  simp

theorem eqDeal_ev (x : S41) (hx : x.f3.length < 4611686018427387904) : Ev (fun k => laws_eqDeal.f k x.f0 x.f1 x.f2.f0 x.f2.f1 x.f2.f2 x.f3 x.f0 x.f1 x.f2.f0 x.f2.f1 x.f2.f2 x.f3) true := by
  unfold laws_eqDeal.f laws_eqVec.f
  simp only [if_true, Option.bind_some]
  exact Ev.bind (g := fun k => laws_eqIntS.f k x.f3 x.f3) (f := fun _ t => if t = true then some true else some false) (eqInts_ev _ hx) (Ev.now _)

theorem eqDeals_loop (l : List S41) (hl : l.length ≤ 1048576) (hx : ∀ x ∈ l, x.f3.length ≤ 1048576) : ∀ n, n ≤ l.length → Ev (fun k => laws_eqDealS.l0 k l l (n : Int)) true := by
  refine down ?_ ?_
  · refine Ev.next (f := fun _ => some true) (Ev.now true) fun k => ?_
    simp only [laws_eqDealS.l0]; rw [if_neg (by omega)]
  · intro n hn ih
    have hxn : l[n].f3.length ≤ 1048576 := hx _ (List.getElem_mem hn)
    refine Ev.next (Ev.bind (eqDeal_ev l[n] (by omega)) (f := fun k t => if t = true then laws_eqDealS.l0 k l l ((n + 1 : Nat) : Int) else some false) ih) fun k => ?_
    simp only [laws_eqDealS.l0]
    rw [if_pos (by omega), if_pos (by omega), if_pos (by omega), rdD_nat l n hn, wrap_succ (by omega)]

theorem eqDeals_ev (l : List S41) (hl : l.length ≤ 1048576) (hx : ∀ x ∈ l, x.f3.length ≤ 1048576) : Ev (fun k => laws_eqDealS.f k l l) true := by
  refine Ev.congr (fun k => ?_) (eqDeals_loop l hl hx 0 (by omega))
  unfold laws_eqDealS.f
  rw [if_pos rfl]; rfl

theorem toD_len {l : List S37} (hx : ∀ x ∈ l, x.f3.length ≤ 1048576) : ∀ x ∈ l.map toD, x.f3.length ≤ 1048576 := by
  intro x h
  obtain ⟨y, hy, rfl⟩ := List.mem_map.1 h
  exact hx y hy

theorem wrap_stride (b : Int) (h0 : 1 ≤ b) : wrap64 (Int.tdiv 2520 b) = 2520 / b := by
  have e : Int.tdiv 2520 b = 2520 / b := Int.tdiv_eq_ediv_of_nonneg (by omega)
  have h1 : 0 ≤ 2520 / b := Int.ediv_nonneg (by omega) (by omega)
  have h2 : 2520 / b ≤ 2520 := Int.ediv_le_self _ (by omega)
  rw [e, wrap_id (by omega) (by omega)]

/-- The stride of a weight. -/
def stride (b : Int) : Int := if 1 ≤ b ∧ b ≤ 10 then 2520 / b else 0

theorem sStride_eq (b : Int) : spec_Stride.f b = some (stride b) := by
  unfold spec_Stride.f stride
  by_cases h1 : b < 1
  · rw [if_pos h1, if_neg (by omega)]
  · rw [if_neg h1]
    by_cases h2 : b > 10
    · rw [if_pos h2, if_neg (by omega)]
    · rw [if_neg h2, if_neg (by omega), if_pos (by omega), wrap_stride b (by omega)]

theorem stride_pos {b : Int} (h : 1 ≤ b ∧ b ≤ 10) : 252 ≤ stride b ∧ stride b ≤ 2520 := by
  unfold stride
  rw [if_pos h]
  constructor
  · rw [Int.le_ediv_iff_mul_le (by omega)]; omega
  · exact Int.ediv_le_self _ (by omega)

theorem stride_zero (b : Int) : stride b = 0 ↔ ¬ (1 ≤ b ∧ b ≤ 10) := by
  by_cases h : 1 ≤ b ∧ b ≤ 10
  · have := stride_pos h
    constructor
    · intro h2; omega
    · intro h2; exact absurd h h2
  · unfold stride; simp [h]

theorem stride_bd (b : Int) : 0 ≤ stride b ∧ stride b ≤ 2520 := by
  by_cases h : 1 ≤ b ∧ b ≤ 10
  · have := stride_pos h; omega
  · have := (stride_zero b).2 h; omega

theorem within_eq (a b c : Int) : impl_within.f a b c = some (decide (b ≤ a ∧ a ≤ c)) := by
  unfold impl_within.f
  by_cases h : a ≥ b
  · rw [if_pos h]; congr 1; simp; omega
  · rw [if_neg h]; congr 1; simp; omega

theorem isWeight_eq (b : Int) : impl_isWeight.f b = some (decide (1 ≤ b ∧ b ≤ 10)) := by
  unfold impl_isWeight.f; rw [within_eq]; rfl

/-- Is each of the three from lo to hi? -/
def vFrom (a b c lo hi : Int) : Bool := decide ((lo ≤ a ∧ a ≤ hi) ∧ (lo ≤ b ∧ b ≤ hi) ∧ (lo ≤ c ∧ c ≤ hi))

theorem sAll_eq (a b c lo hi : Int) : spec_l13All.f a b c lo hi = some (vFrom a b c lo hi) := by
  unfold spec_l13All.f vFrom
  repeat' split
  all_goals (congr 1; first | exact dec_iff (by omega) | exact dec_false (by omega) | exact dec_true (by omega))

theorem iFrom_eq (a b c lo hi : Int) : impl_Vec_isFrom.f a b c lo hi = some (vFrom a b c lo hi) := by
  unfold impl_Vec_isFrom.f vFrom
  simp only [within_eq, Option.bind_some, decide_eq_true_eq]
  repeat' split
  all_goals (congr 1; first | exact dec_iff (by omega) | exact dec_false (by omega) | exact dec_true (by omega))

theorem sCharge_eq (a b c : Int) : spec_ChargeOk.f a b c = some (vFrom a b c 1 2000) := by
  unfold spec_ChargeOk.f; rw [sAll_eq]; rfl

theorem iCharge_eq (a b c : Int) : impl_ChargeOk.f a b c = some (vFrom a b c 1 2000) := by
  unfold impl_ChargeOk.f; rw [iFrom_eq]; rfl

theorem sIn_loop (l : List Int) (x : Int) (hl : l.length < 4611686018427387904) : ∀ n, n ≤ l.length → Ev (fun k => spec_l19In.l0 k l x (n : Int)) (decide (x ∈ l.drop n)) := by
  refine down ?_ ?_
  · refine Ev.next (f := fun _ => some _) (Ev.now _) fun k => ?_
    simp only [spec_l19In.l0]; rw [if_neg (by omega)]; simp
  · intro n hn ih
    have hd := List.drop_eq_getElem_cons hn
    by_cases h : l[n] = x
    · refine Ev.next (f := fun _ => some _) (Ev.now _) fun k => ?_
      simp only [spec_l19In.l0]
      rw [if_pos (by omega), if_pos (by omega), rd_nat, getD_lt 0 hn, if_pos h]; exact congrArg some (dec_true ((mem_drop hn).2 (.inl h.symm)))
    · refine Ev.next (Ev.to ih ?_) fun k => ?_
      · exact dec_iff (by rw [mem_drop hn]; simp only [Ne.symm h, false_or])
      · simp only [spec_l19In.l0]
        rw [if_pos (by omega), if_pos (by omega), rd_nat, getD_lt 0 hn, if_neg h, wrap_succ (by omega)]

theorem sIn_ev (l : List Int) (x : Int) (hl : l.length < 4611686018427387904) : Ev (fun k => spec_l19In.f k l x) (decide (x ∈ l)) := by
  have := sIn_loop l x hl 0 (by omega)
  simpa [spec_l19In.f] using this

theorem idx_loop (l : List Int) (x : Int) (hl : l.length < 4611686018427387904) : ∀ n, n ≤ l.length → ∃ r : Int, Ev (fun k => slices_Index_int_int.l0 k l x (l.length : Int) (n : Int)) r ∧ (0 ≤ r ↔ x ∈ l.drop n) := by
  refine down ?_ ?_
  · refine ⟨-1, Ev.next (f := fun _ => some _) (Ev.now _) fun k => ?_, by simp⟩
    simp only [slices_Index_int_int.l0]; rw [if_neg (by omega)]
  · intro n hn ih
    have hd := List.drop_eq_getElem_cons hn
    by_cases h : x = l[n]
    · refine ⟨n, Ev.next (f := fun _ => some _) (Ev.now _) fun k => ?_, ⟨fun _ => (mem_drop hn).2 (.inl h), fun _ => by omega⟩⟩
      simp only [slices_Index_int_int.l0]
      rw [if_pos (by omega), if_pos (by omega), if_pos (by omega), rd_nat, getD_lt 0 hn, if_pos h]
    · obtain ⟨r, hr, hm⟩ := ih
      refine ⟨r, Ev.next hr fun k => ?_, by rw [hm, mem_drop hn]; simp only [h, false_or]⟩
      simp only [slices_Index_int_int.l0]
      rw [if_pos (by omega), if_pos (by omega), if_pos (by omega), rd_nat, getD_lt 0 hn, if_neg h, wrap_succ (by omega)]

theorem iContains_ev (l : List Int) (x : Int) (hl : l.length < 4611686018427387904) : Ev (fun k => slices_Contains_int_int.f k l x) (decide (x ∈ l)) := by
  obtain ⟨r, hr, hm⟩ := idx_loop l x hl 0 (by omega)
  unfold slices_Contains_int_int.f slices_Index_int_int.f
  refine Ev.to (Ev.bind hr (f := fun _ t => some (decide (t ≥ 0))) (Ev.now _)) ?_
  rw [decide_eq_decide]
  simpa using hm

/-- Is the id at place n of Busy right, and above the one ahead of it? -/
def okAt (l : List Int) (n : Nat) : Bool := decide (0 ≤ l.getD n 0 ∧ l.getD n 0 ≤ 9999) && (decide (n = 0) || decide (l.getD (n - 1) 0 < l.getD n 0))
/-- Are all from n on, d of them? -/
def busyFrom (l : List Int) : Nat → Nat → Bool
  | 0, _ => true
  | d + 1, n => okAt l n && busyFrom l d (n + 1)
/-- Is a deal right? -/
def dealOkM (x : S41) : Bool := vFrom x.f2.f0 x.f2.f1 x.f2.f2 1 2000 && decide (1 ≤ x.f1 ∧ x.f1 ≤ 10) && decide (x.f0 ∈ x.f3) && busyFrom x.f3 x.f3.length 0
def dealsOkM (l : List S41) : Bool := decide (l.length ≤ 200) && l.all dealOkM

theorem okAt_no {l : List Int} {n : Nat} (h : ¬ (0 ≤ l.getD n 0 ∧ l.getD n 0 ≤ 9999)) : okAt l n = false := by
  unfold okAt; rw [decide_eq_false h]; rfl
theorem okAt_no2 {l : List Int} {n : Nat} (h0 : ¬ n = 0) (h : ¬ l.getD (n - 1) 0 < l.getD n 0) : okAt l n = false := by
  unfold okAt; rw [decide_eq_false h0, decide_eq_false h]; simp
theorem okAt_yes {l : List Int} {n : Nat} (h : 0 ≤ l.getD n 0 ∧ l.getD n 0 ≤ 9999) (h0 : n = 0 ∨ l.getD (n - 1) 0 < l.getD n 0) : okAt l n = true := by
  unfold okAt; rw [decide_eq_true h]
  rcases h0 with h0 | h0
  · rw [decide_eq_true h0]; rfl
  · rw [decide_eq_true h0]; simp

theorem busy_ge {l : List Int} : ∀ d n, n + d = l.length → busyFrom l d n = true → (n = 0 ∨ (n : Int) - 1 ≤ l.getD (n - 1) 0) → ∀ m, n ≤ m → m < l.length → (m : Int) ≤ l.getD m 0 ∧ l.getD m 0 ≤ 9999 := by
  intro d
  induction d with
  | zero => intro n h1 _ _ m h2 h3; omega
  | succ d ih =>
    intro n h1 h2 h0 m h3 h4
    simp only [busyFrom, okAt, Bool.and_eq_true, decide_eq_true_eq, Bool.or_eq_true] at h2
    obtain ⟨⟨⟨h5, h6⟩, h7⟩, h8⟩ := h2
    have hn : (n : Int) ≤ l.getD n 0 := by
      rcases h0 with h0 | h0
      · subst h0; simpa using h5
      · rcases h7 with h7 | h7
        · subst h7; simpa using h5
        · omega
    by_cases he : m = n
    · subst he; exact ⟨hn, h6⟩
    · exact ih (n + 1) (by omega) h8 (.inr (by simpa using hn)) m (by omega) h4

theorem busy_len {l : List Int} (h : busyFrom l l.length 0 = true) : l.length ≤ 10000 := by
  by_cases hl : l.length = 0
  · omega
  · have := busy_ge l.length 0 (by omega) h (.inl rfl) (l.length - 1) (by omega) (by omega)
    omega

theorem dealOk_spec (x : S41) : (vFrom x.f2.f0 x.f2.f1 x.f2.f2 1 2000 && decide (1 ≤ x.f1 ∧ x.f1 ≤ 10) && decide (x.f3.length ≤ 10000) && decide (x.f0 ∈ x.f3) && busyFrom x.f3 x.f3.length 0) = dealOkM x := by
  unfold dealOkM
  by_cases h : busyFrom x.f3 x.f3.length 0 = true
  · have := busy_len h
    simp [h, this]
  · simp [h]

theorem sBusy_loop (L : List S41) (m : Int) (a0 a1 a2 a3 a4 : Int) (l : List Int) (hl : l.length ≤ 1048576) (r : Bool) (hr : Ev (fun k => spec_DealsOk.l0 k L (wrap64 (m + 1))) r) : ∀ d n, n + d = l.length →
    Ev (fun k => spec_DealsOk.l1 k L m (n : Int) a0 a1 a2 a3 a4 l) (busyFrom l d n && r) := by
  intro d
  induction d with
  | zero =>
    intro n hn
    refine Ev.next (Ev.to hr (by simp [busyFrom])) fun k => ?_
    simp only [spec_DealsOk.l1]; rw [if_neg (by omega)]
  | succ d ih =>
    intro n hn
    have hlt : n < l.length := by omega
    have hnext := ih (n + 1) (by omega)
    by_cases h1 : l.getD n 0 < 0
    · refine Ev.to (Ev.next (f := fun _ => some false) (Ev.now _) fun k => ?_) (by simp only [busyFrom, okAt_no (show ¬ (0 ≤ l.getD n 0 ∧ l.getD n 0 ≤ 9999) by omega), Bool.false_and])
      simp only [spec_DealsOk.l1]; rw [if_pos (by omega), if_pos (by omega), rd_nat, if_pos h1]
    by_cases h2 : l.getD n 0 > 9999
    · refine Ev.to (Ev.next (f := fun _ => some false) (Ev.now _) fun k => ?_) (by simp only [busyFrom, okAt_no (show ¬ (0 ≤ l.getD n 0 ∧ l.getD n 0 ≤ 9999) by omega), Bool.false_and])
      simp only [spec_DealsOk.l1]; rw [if_pos (by omega), if_pos (by omega), rd_nat, if_neg h1, if_pos h2]
    by_cases h0 : n = 0
    · subst h0
      have ho : okAt l 0 = true := okAt_yes (by omega) (.inl rfl)
      refine Ev.to (Ev.next hnext fun k => ?_) (by simp [busyFrom, ho])
      simp only [spec_DealsOk.l1]; rw [if_pos (by omega), if_pos (by omega), rd_nat, if_neg h1, if_neg h2, if_neg (by omega), wrap_succ (by omega)]
    · by_cases h3 : l.getD (n - 1) 0 ≥ l.getD n 0
      · refine Ev.to (Ev.next (f := fun _ => some false) (Ev.now _) fun k => ?_) (by simp only [busyFrom, okAt_no2 h0 (show ¬ l.getD (n - 1) 0 < l.getD n 0 by omega), Bool.false_and])
        simp only [spec_DealsOk.l1]; rw [if_pos (by omega), if_pos (by omega), rd_nat, if_neg h1, if_neg h2, if_pos (by omega), wrap_pred (by omega) (by omega), if_pos (by omega), if_pos (by omega), rd_nat, if_pos h3]
      · have ho : okAt l n = true := okAt_yes (by omega) (.inr (by omega))
        refine Ev.to (Ev.next hnext fun k => ?_) (by simp [busyFrom, ho])
        simp only [spec_DealsOk.l1]; rw [if_pos (by omega), if_pos (by omega), rd_nat, if_neg h1, if_neg h2, if_pos (by omega), wrap_pred (by omega) (by omega), if_pos (by omega), if_pos (by omega), rd_nat, if_neg h3, wrap_succ (by omega)]

theorem sDeals_loop (L : List S41) (hl : L.length ≤ 1048576) (hx : ∀ x ∈ L, x.f3.length ≤ 1048576) : ∀ n, n ≤ L.length → Ev (fun k => spec_DealsOk.l0 k L (n : Int)) ((L.drop n).all dealOkM) := by
  refine down ?_ ?_
  · refine Ev.next (f := fun _ => some _) (Ev.now _) fun k => ?_
    simp only [spec_DealsOk.l0]; rw [if_neg (by omega)]; simp
  · intro n hn ih
    have hxn := hx _ (List.getElem_mem hn)
    rw [all_drop hn, ← dealOk_spec]
    rw [show ((n + 1 : Nat) : Int) = wrap64 ((n : Int) + 1) from (wrap_succ (by omega)).symm] at ih
    have hb := sBusy_loop L (n : Int) (L[n].f0) (L[n].f1) (L[n].f2.f0) (L[n].f2.f1) (L[n].f2.f2) L[n].f3 hxn _ ih L[n].f3.length 0 (by omega)
    have hj : Ev (fun k => spec_DealsOk.j1 k L (n : Int) true (L[n].f0) (L[n].f1) (L[n].f2.f0) (L[n].f2.f1) (L[n].f2.f2) L[n].f3) false := Ev.next (f := fun _ => some false) (Ev.now _) fun k => by simp [spec_DealsOk.j1]
    have hj2 : ∀ t : Bool, Ev (fun k => spec_DealsOk.j1 k L (n : Int) (!t) (L[n].f0) (L[n].f1) (L[n].f2.f0) (L[n].f2.f1) (L[n].f2.f2) L[n].f3) (t && (busyFrom L[n].f3 L[n].f3.length 0 && (L.drop (n + 1)).all dealOkM)) := by
      intro t
      cases t with
      | false => simpa using hj
      | true => exact Ev.to (Ev.next hb fun k => by simp [spec_DealsOk.j1]) (by simp)
    cases hc : vFrom L[n].f2.f0 L[n].f2.f1 L[n].f2.f2 1 2000 with
    | false =>
      refine Ev.to (Ev.next hj fun k => ?_) (by simp)
      simp only [spec_DealsOk.l0]; rw [if_pos (by omega), if_pos (by omega), rdD_nat L n hn, sCharge_eq, hc]; simp
    | true =>
      by_cases hw : 1 ≤ L[n].f1 ∧ L[n].f1 ≤ 10
      · have hs : ¬ stride L[n].f1 = 0 := fun h => (stride_zero _).1 h hw
        by_cases h4 : (L[n].f3.length : Int) > 10000
        · refine Ev.to (Ev.next hj fun k => ?_) (by simp; intro; omega)
          simp only [spec_DealsOk.l0]; rw [if_pos (by omega), if_pos (by omega), rdD_nat L n hn, sCharge_eq, hc, sStride_eq]; simp only [Option.bind_some, if_true]; rw [if_neg hs, if_pos h4]
        · have h4' : L[n].f3.length ≤ 10000 := by omega
          refine Ev.to (Ev.next (Ev.bind (sIn_ev L[n].f3 L[n].f0 (by omega)) (f := fun k t => spec_DealsOk.j1 k L (n : Int) (!t) (L[n].f0) (L[n].f1) (L[n].f2.f0) (L[n].f2.f1) (L[n].f2.f2) L[n].f3) (hj2 _)) fun k => ?_) (by simp [hw, h4', Bool.and_assoc])
          simp only [spec_DealsOk.l0]; rw [if_pos (by omega), if_pos (by omega), rdD_nat L n hn, sCharge_eq, hc, sStride_eq]; simp only [Option.bind_some, if_true]; rw [if_neg hs, if_neg h4]
      · have hs : stride L[n].f1 = 0 := (stride_zero _).2 hw
        refine Ev.to (Ev.next hj fun k => ?_) (by simp [hw])
        simp only [spec_DealsOk.l0]; rw [if_pos (by omega), if_pos (by omega), rdD_nat L n hn, sCharge_eq, hc, sStride_eq]; simp only [Option.bind_some, if_true]; rw [if_pos hs]

theorem sDeals_ev (L : List S41) (hl : L.length ≤ 1048576) (hx : ∀ x ∈ L, x.f3.length ≤ 1048576) : Ev (fun k => spec_DealsOk.f k L) (dealsOkM L) := by
  unfold spec_DealsOk.f dealsOkM
  by_cases h : (L.length : Int) > 200
  · refine Ev.to (Ev.now' fun k => if_pos h) ?_
    have : ¬ L.length ≤ 200 := by omega
    simp [this]
  · refine Ev.to (Ev.congr (fun k => if_neg h) (sDeals_loop L hl hx 0 (by omega))) ?_
    have : L.length ≤ 200 := by omega
    simp [this]

theorem iBusy_loop (l : List Int) (a0 a1 a2 a3 a4 : Int) (hl : l.length ≤ 1048576) (r : Bool)
    (hr : Ev (fun k => (impl_ChargeOk.f a2 a3 a4).bind fun t198 => (if t198 = true then ((impl_isWeight.f a1).bind fun t199 => (if t199 = true then ((slices_Contains_int_int.f k l a0).bind fun t200 => (some t200)) else (some false))) else (some false))) r) : ∀ d n, n + d = l.length →
    Ev (fun k => impl_dealOk.l0 k l (l.length : Int) (n : Int) a0 a1 a2 a3 a4 l) (busyFrom l d n && r) := by
  intro d
  induction d with
  | zero =>
    intro n hn
    refine Ev.next (Ev.to hr (by simp [busyFrom])) fun k => ?_
    simp only [impl_dealOk.l0]; rw [if_neg (by omega)]
  | succ d ih =>
    intro n hn
    have hlt : n < l.length := by omega
    have hnext := ih (n + 1) (by omega)
    have hfl : impl_isFlow.f (l.getD n 0) = some (decide (0 ≤ l.getD n 0 ∧ l.getD n 0 ≤ 9999)) := by unfold impl_isFlow.f; rw [within_eq]; rfl
    by_cases h1 : 0 ≤ l.getD n 0 ∧ l.getD n 0 ≤ 9999
    · by_cases h0 : n = 0
      · subst h0
        have ho : okAt l 0 = true := okAt_yes (by omega) (.inl rfl)
        refine Ev.to (Ev.next hnext fun k => ?_) (by simp [busyFrom, ho])
        simp only [impl_dealOk.l0]; rw [if_pos (by omega), if_pos (by omega), if_pos (by omega), rd_nat, hfl, decide_eq_true h1]; simp only [Option.bind_some, if_true]; rw [if_neg (by omega), wrap_succ (by omega)]
      · by_cases h3 : l.getD (n - 1) 0 ≥ l.getD n 0
        · refine Ev.to (Ev.next (f := fun _ => some false) (Ev.now _) fun k => ?_) (by simp only [busyFrom, okAt_no2 h0 (show ¬ l.getD (n - 1) 0 < l.getD n 0 by omega), Bool.false_and])
          simp only [impl_dealOk.l0]; rw [if_pos (by omega), if_pos (by omega), if_pos (by omega), rd_nat, hfl, decide_eq_true h1]; simp only [Option.bind_some, if_true]; rw [if_pos (by omega), wrap_pred (by omega) (by omega), if_pos (by omega), if_pos (by omega), rd_nat, if_pos h3]
        · have ho : okAt l n = true := okAt_yes (by omega) (.inr (by omega))
          refine Ev.to (Ev.next hnext fun k => ?_) (by simp [busyFrom, ho])
          simp only [impl_dealOk.l0]; rw [if_pos (by omega), if_pos (by omega), if_pos (by omega), rd_nat, hfl, decide_eq_true h1]; simp only [Option.bind_some, if_true]; rw [if_pos (by omega), wrap_pred (by omega) (by omega), if_pos (by omega), if_pos (by omega), rd_nat, if_neg h3, wrap_succ (by omega)]
    · refine Ev.to (Ev.next (f := fun _ => some false) (Ev.now _) fun k => ?_) (by simp only [busyFrom, okAt_no h1, Bool.false_and])
      simp only [impl_dealOk.l0]; rw [if_pos (by omega), if_pos (by omega), if_pos (by omega), rd_nat, hfl, decide_eq_false h1]; simp

theorem iDeal_ev (x : S41) (hx : x.f3.length ≤ 1048576) : Ev (fun k => impl_dealOk.f k x.f0 x.f1 x.f2.f0 x.f2.f1 x.f2.f2 x.f3) (dealOkM x) := by
  unfold impl_dealOk.f
  refine Ev.to (iBusy_loop x.f3 x.f0 x.f1 x.f2.f0 x.f2.f1 x.f2.f2 hx (vFrom x.f2.f0 x.f2.f1 x.f2.f2 1 2000 && decide (1 ≤ x.f1 ∧ x.f1 ≤ 10) && decide (x.f0 ∈ x.f3)) ?_ x.f3.length 0 (by omega)) (by unfold dealOkM; rw [Bool.and_comm])
  simp only [iCharge_eq, isWeight_eq, Option.bind_some]
  cases vFrom x.f2.f0 x.f2.f1 x.f2.f2 1 2000 with
  | false => exact Ev.now' fun k => by simp
  | true =>
    by_cases hw : 1 ≤ x.f1 ∧ x.f1 ≤ 10
    · simp only [decide_eq_true hw, if_true, Bool.and_self, Bool.true_and]
      exact Ev.bind (iContains_ev x.f3 x.f0 (by omega)) (f := fun _ t => some t) (Ev.now _)
    · exact Ev.now' fun k => by simp [hw]

/-- One number of rounds for all elements of a list. -/
theorem Ev.all {α β : Type} {P : Nat → α → Option β} {q : α → β} : ∀ l : List α, (∀ x ∈ l, Ev (fun k => P k x) (q x)) → ∃ K, ∀ k, K ≤ k → ∀ x ∈ l, P k x = some (q x)
  | [], _ => ⟨0, fun _ _ x hx => by cases hx⟩
  | y :: l, h => by
    obtain ⟨K1, h1⟩ := h y (by simp)
    obtain ⟨K2, h2⟩ := Ev.all l (fun x hx => h x (by simp [hx]))
    refine ⟨max K1 K2, fun k hk x hx => ?_⟩
    rcases List.mem_cons.1 hx with rfl | hx
    · exact h1 k (by omega)
    · exact h2 k (by omega) x hx

theorem iIndexD (L : List S41) (hl : L.length ≤ 1048576) (p : Int → Int → Int → Int → Int → List Int → Option Bool) (q : S41 → Bool)
    (hp : ∀ x ∈ L, p x.f0 x.f1 x.f2.f0 x.f2.f1 x.f2.f2 x.f3 = some (q x)) : ∀ n, n ≤ L.length → ∃ r : Int, (∀ k, L.length - n < k → slices_IndexFunc_impl_Deal_impl_Deal.l0 k L p (L.length : Int) (n : Int) = some r) ∧ (0 ≤ r ↔ (L.drop n).any q = true) := by
  refine down ?_ ?_
  · refine ⟨-1, fun k hk => ?_, by simp⟩
    obtain ⟨k, rfl⟩ : ∃ m, k = m + 1 := ⟨k - 1, by omega⟩
    simp only [slices_IndexFunc_impl_Deal_impl_Deal.l0]; rw [if_neg (by omega)]
  · intro n hn ih
    have hd := List.drop_eq_getElem_cons hn
    have hpn := hp _ (List.getElem_mem hn)
    cases hq : q L[n] with
    | true =>
      refine ⟨n, fun k hk => ?_, by rw [any_drop hn, hq]; simp⟩
      obtain ⟨k, rfl⟩ : ∃ m, k = m + 1 := ⟨k - 1, by omega⟩
      simp only [slices_IndexFunc_impl_Deal_impl_Deal.l0]
      rw [if_pos (by omega), if_pos (by omega), if_pos (by omega), rdD_nat L n hn, hpn, hq]; simp
    | false =>
      obtain ⟨r, hr, hm⟩ := ih
      refine ⟨r, fun k hk => ?_, by rw [hm, any_drop hn, hq]; simp⟩
      obtain ⟨k, rfl⟩ : ∃ m, k = m + 1 := ⟨k - 1, by omega⟩
      simp only [slices_IndexFunc_impl_Deal_impl_Deal.l0]
      rw [if_pos (by omega), if_pos (by omega), if_pos (by omega), rdD_nat L n hn, hpn, hq]
      simp only [Option.bind_some, if_neg (show ¬ (false = true) by decide)]
      rw [wrap_succ (by omega)]
      exact hr k (by omega)

theorem iContainsD (L : List S41) (hl : L.length ≤ 1048576) (p : Nat → Int → Int → Int → Int → Int → List Int → Option Bool) (q : S41 → Bool)
    (hp : ∀ x ∈ L, Ev (fun k => p k x.f0 x.f1 x.f2.f0 x.f2.f1 x.f2.f2 x.f3) (q x)) : Ev (fun k => slices_ContainsFunc_impl_Deal_impl_Deal.f k L (p k)) (L.any q) := by
  obtain ⟨K, hK⟩ := Ev.all (P := fun k (x : S41) => p k x.f0 x.f1 x.f2.f0 x.f2.f1 x.f2.f2 x.f3) L hp
  refine ⟨max K (L.length + 1), fun k hk => ?_⟩
  obtain ⟨r, hr, hm⟩ := iIndexD L hl (p k) q (hK k (by omega)) 0 (by omega)
  unfold slices_ContainsFunc_impl_Deal_impl_Deal.f slices_IndexFunc_impl_Deal_impl_Deal.f
  show (slices_IndexFunc_impl_Deal_impl_Deal.l0 k L (p k) (L.length : Int) ((0 : Nat) : Int)).bind (fun t => some (decide (t ≥ 0))) = some (L.any q)
  rw [hr k (by omega), Option.bind_some]
  congr 1
  rw [Bool.eq_iff_iff, decide_eq_true_eq]
  simpa using hm

theorem iDeals_ev (L : List S41) (hl : L.length ≤ 1048576) (hx : ∀ x ∈ L, x.f3.length ≤ 1048576) : Ev (fun k => impl_DealsOk.f k L) (dealsOkM L) := by
  unfold impl_DealsOk.f dealsOkM
  by_cases h : (L.length : Int) ≤ 200
  · have h' : L.length ≤ 200 := by omega
    simp only [if_pos h]
    refine Ev.to (Ev.bind (iContainsD L hl (fun k z0 z1 z2 z3 z4 z5 => impl_DealsOk_1.f k z0 z1 z2 z3 z4 z5) (fun x => !dealOkM x) ?_) (f := fun _ t => some (!t)) (Ev.now _)) ?_
    · intro x hxm
      unfold impl_DealsOk_1.f
      exact Ev.bind (iDeal_ev x (hx x hxm)) (f := fun _ t => some (!t)) (Ev.now _)
    · simp only [h', decide_true, Bool.true_and]
      rw [Bool.eq_iff_iff]
      simp
  · refine Ev.to (Ev.now' fun k => if_neg h) ?_
    have : ¬ L.length ≤ 200 := by omega
    simp [this]

/-- The deals of a member. -/
def mineM (L : List S41) (id : Int) : List S41 := L.filter (fun x => decide (x.f0 = id))
/-- The deals of a span. -/
def cutM (L : List S41) (a b : Int) : List S41 := (L.take b.toNat).drop a.toNat
/-- Are the log and the span right? -/
def spanM (L : List S41) (a b : Int) : Bool := decide (0 ≤ a ∧ a ≤ b ∧ b ≤ L.length) && dealsOkM L

theorem dealsOk_len {L : List S41} (h : dealsOkM L = true) : L.length ≤ 200 := by
  unfold dealsOkM at h; simp at h; exact h.1

theorem cut_len (L : List S41) (a b : Int) : (cutM L a b).length ≤ L.length := by
  unfold cutM; rw [List.length_drop, List.length_take]; omega

theorem mine_len (L : List S41) (id : Int) : (mineM L id).length ≤ L.length := List.length_filter_le _ _

/-- A charge more. -/
def addV (v : Int × Int × Int) (x : S41) : Int × Int × Int := (wrap64 (v.1 + x.f2.f0), wrap64 (v.2.1 + x.f2.f1), wrap64 (v.2.2 + x.f2.f2))
def sumM (L : List S41) : Int × Int × Int := L.foldl addV (0, 0, 0)

theorem sSum_loop (L : List S41) (hl : L.length ≤ 1048576) : ∀ n, n ≤ L.length → ∀ v : Int × Int × Int, Ev (fun k => spec_l19Sum.l0 k L (n : Int) v.1 v.2.1 v.2.2) ((L.drop n).foldl addV v) := by
  refine down ?_ ?_
  · intro v
    refine Ev.next (f := fun _ => some _) (Ev.now _) fun k => ?_
    simp only [spec_l19Sum.l0]; rw [if_neg (by omega)]; simp
  · intro n hn ih v
    refine Ev.to (Ev.next (ih (addV v L[n])) fun k => ?_) (by rw [List.drop_eq_getElem_cons hn]; rfl)
    simp only [spec_l19Sum.l0]
    rw [if_pos (by omega), if_pos (by omega), rdD_nat L n hn, wrap_succ (by omega)]
    rfl

theorem sSum_ev (L : List S41) (hl : L.length ≤ 1048576) : Ev (fun k => spec_l19Sum.f k L) (sumM L) := by
  have := sSum_loop L hl 0 (by omega) (0, 0, 0)
  simpa [spec_l19Sum.f, sumM] using this

theorem plus_eq (a b c d e f : Int) : impl_Vec_plus.f a b c d e f = some (wrap64 (a + d), wrap64 (b + e), wrap64 (c + f)) := by
  simp [impl_Vec_plus.f, impl_both.f, impl_Vec_plus_1.f]

theorem iSum_loop (L : List S41) (hl : L.length ≤ 1048576) : ∀ n, n ≤ L.length → ∀ v : Int × Int × Int, Ev (fun k => impl_taken.l0 k L (L.length : Int) (n : Int) v.1 v.2.1 v.2.2) ((L.drop n).foldl addV v) := by
  refine down ?_ ?_
  · intro v
    refine Ev.next (f := fun _ => some _) (Ev.now _) fun k => ?_
    simp only [impl_taken.l0]; rw [if_neg (by omega)]; simp
  · intro n hn ih v
    refine Ev.to (Ev.next (ih (addV v L[n])) fun k => ?_) (by rw [List.drop_eq_getElem_cons hn]; rfl)
    simp only [impl_taken.l0]
    rw [if_pos (by omega), if_pos (by omega), if_pos (by omega), rdD_nat L n hn, wrap_succ (by omega), plus_eq]
    rfl

theorem iSum_ev (L : List S41) (hl : L.length ≤ 1048576) : Ev (fun k => impl_taken.f k L) (sumM L) := by
  have := iSum_loop L hl 0 (by omega) (0, 0, 0)
  simpa [impl_taken.f, sumM] using this

/-- Do both wait throughout? -/
def bothM (L : List S41) (i j : Int) : Bool := L.all fun x => decide (i ∈ x.f3) && decide (j ∈ x.f3)

theorem cut_mem {L : List S41} {a b : Int} {x : S41} (h : x ∈ cutM L a b) : x ∈ L := List.mem_of_mem_take (List.mem_of_mem_drop h)
theorem cut_le (L : List S41) (a b : Int) : (cutM L a b).length ≤ L.length := by
  unfold cutM; rw [List.length_drop, List.length_take]; omega


/-- Is this resource, of every deal, the one with the greatest part? -/
def mainX (r : Int) (x : S41) : Bool := decide (ar3 x.f2.f0 x.f2.f1 x.f2.f2 r = mx (mx x.f2.f0 x.f2.f1) x.f2.f2)
def mainAt (L : List S41) (r : Int) : Bool := decide (0 < L.length) && L.all (mainX r)
def mainsFrom (L : List S41) (r : Nat) : List Int := (([0, 1, 2] : List Int).drop r).filter (mainAt L)
def mainsM (L : List S41) : List Int := mainsFrom L 0

theorem mains_cons (L : List S41) (r : Nat) (hr : r < 3) : mainsFrom L r = if mainAt L (r : Int) = true then (r : Int) :: mainsFrom L (r + 1) else mainsFrom L (r + 1) := by
  unfold mainsFrom
  rcases (show r = 0 ∨ r = 1 ∨ r = 2 by omega) with rfl | rfl | rfl
  · exact List.filter_cons
  · exact List.filter_cons
  · exact List.filter_cons

theorem mains_mem {L : List S41} {p : Int} (h : p ∈ mainsM L) : 0 < L.length ∧ 0 ≤ p ∧ p < 3 := by
  unfold mainsM mainsFrom at h
  rw [List.mem_filter] at h
  obtain ⟨h1, h2⟩ := h
  unfold mainAt at h2
  simp only [Bool.and_eq_true, decide_eq_true_eq] at h2
  refine ⟨h2.1, ?_⟩
  simp at h1
  omega

theorem mains_len (L : List S41) : (mainsM L).length ≤ 3 := List.length_filter_le _ _

theorem rd_three (a b c r : Int) (h0 : 0 ≤ r) (h1 : r < 3) : rd [a, b, c] r = ar3 a b c r := by
  rcases (show r = 0 ∨ r = 1 ∨ r = 2 by omega) with rfl | rfl | rfl <;> rfl

theorem sMains_in (L : List S41) (hl : L.length ≤ 1048576) (r : Nat) (hr : r < 3) (acc : List Int) (ha : acc.length ≤ r) (res : List Int)
    (h1 : Ev (fun k => spec_l19Mains.l0 k L (acc ++ [(r : Int)]) ((r + 1 : Nat) : Int)) (acc ++ [(r : Int)] ++ res)) (h2 : Ev (fun k => spec_l19Mains.l0 k L acc ((r + 1 : Nat) : Int)) (acc ++ res)) : ∀ n, n ≤ L.length → ∀ b : Bool,
    Ev (fun k => spec_l19Mains.l1 k L acc (r : Int) b (n : Int)) (acc ++ (if (b && (L.drop n).all (mainX r)) = true then (r : Int) :: res else res)) := by
  refine down ?_ ?_
  · intro b
    cases b with
    | true =>
      refine Ev.to (Ev.next h1 fun k => ?_) (by simp)
      simp only [spec_l19Mains.l1]; rw [if_neg (by omega), if_pos (by first | rfl | trivial), if_pos (by omega), wrap_succ (by omega)]
    | false =>
      refine Ev.to (Ev.next h2 fun k => ?_) (by simp)
      simp only [spec_l19Mains.l1]; rw [if_neg (by omega), if_neg (by decide), wrap_succ (by omega)]
  · intro n hn ih b
    cases b with
    | true =>
      refine Ev.to (Ev.next (ih (mainX r L[n])) fun k => ?_) (by rw [all_drop hn]; simp)
      simp only [spec_l19Mains.l1, spec_l13List.f, spec_VecTop.f]
      rw [if_pos (by omega), if_pos (by first | rfl | trivial), if_pos (by omega)]
      simp only [Option.bind_some]
      rw [if_pos (by omega), if_pos (by simp; omega), rdD_nat L n hn, rd_three _ _ _ _ (by omega) (by omega), wrap_succ (by omega)]
      rfl
    | false =>
      refine Ev.to (Ev.next (ih false) fun k => ?_) (by simp)
      simp only [spec_l19Mains.l1]
      rw [if_pos (by omega), if_neg (by decide), wrap_succ (by omega)]

theorem sMains_loop (L : List S41) (hl : L.length ≤ 1048576) : ∀ r, r ≤ 3 → ∀ acc : List Int, acc.length ≤ r → Ev (fun k => spec_l19Mains.l0 k L acc (r : Int)) (acc ++ mainsFrom L r) := by
  refine down ?_ ?_
  · intro acc ha
    refine Ev.to (Ev.next (Ev.next (f := fun _ => some acc) (Ev.now _) (g := fun k => spec_l19Mains.j1 k L acc ((3 : Nat) : Int) false) fun k => ?_) fun k => ?_) (by simp [mainsFrom])
    · simp only [spec_l19Mains.j1]; rw [if_neg (by decide)]
    · simp only [spec_l19Mains.l0]; rw [if_neg (by omega)]
  · intro r hr ih acc ha
    by_cases h0 : 0 < L.length
    · have h1 := ih (acc ++ [(r : Int)]) (by simp; omega)
      have h2 := ih acc (by omega)
      have hin := sMains_in L hl r hr acc ha _ h1 h2 0 (by omega) true
      refine Ev.to (Ev.next (Ev.next hin (g := fun k => spec_l19Mains.j1 k L acc (r : Int) true) fun k => ?_) fun k => ?_) ?_
      · simp only [spec_l19Mains.j1]; rw [if_pos (by first | rfl | trivial)]; rfl
      · simp only [spec_l19Mains.l0]; rw [if_pos (by omega), decide_eq_true (show (L.length : Int) > 0 by omega)]
      · rw [mains_cons L r hr]; unfold mainAt; rw [decide_eq_true h0]; simp
    · have hm : ∀ r, mainsFrom L r = [] := by
        intro r; unfold mainsFrom; rw [List.filter_eq_nil_iff]; intro a _; unfold mainAt; simp [h0]
      refine Ev.to (Ev.next (Ev.next (f := fun _ => some acc) (Ev.now _) (g := fun k => spec_l19Mains.j1 k L acc (r : Int) false) fun k => ?_) fun k => ?_) (by rw [hm]; simp)
      · simp only [spec_l19Mains.j1]; rw [if_neg (by decide)]
      · simp only [spec_l19Mains.l0]; rw [if_pos (by omega), decide_eq_false (show ¬ (L.length : Int) > 0 by omega)]

theorem sMains_ev (L : List S41) (hl : L.length ≤ 1048576) : Ev (fun k => spec_l19Mains.f k L) (mainsM L) := by
  have := sMains_loop L hl 0 (by omega) [] (by simp)
  simpa [spec_l19Mains.f, mainsM] using this

theorem iMains_loop (L : List S41) (hl : L.length ≤ 1048576) : ∀ r, r ≤ 3 → ∀ acc : List Int, acc.length ≤ r → Ev (fun k => impl_mains.l0 k L acc (r : Int)) (acc ++ mainsFrom L r) := by
  refine down ?_ ?_
  · intro acc ha
    refine Ev.to (Ev.next (f := fun _ => some acc) (Ev.now _) fun k => ?_) (by simp [mainsFrom])
    simp only [impl_mains.l0]; rw [if_neg (by omega)]
  · intro r hr ih acc ha
    have h1 := ih (acc ++ [(r : Int)]) (by simp; omega)
    have h2 := ih acc (by omega)
    by_cases h0 : 0 < L.length
    · have hc : Ev (fun k => slices_ContainsFunc_impl_Deal_impl_Deal.f k L (fun z0_ z1_ z2_ z3_ z4_ z5_ => impl_mains_1.f z0_ z1_ z2_ z3_ z4_ z5_ (r : Int))) (L.any fun x => !mainX r x) := by
        refine iContainsD L hl (fun _ z0_ z1_ z2_ z3_ z4_ z5_ => impl_mains_1.f z0_ z1_ z2_ z3_ z4_ z5_ (r : Int)) _ ?_
        intro x _
        refine Ev.now' fun k => ?_
        simp only [impl_mains_1.f, impl_Vec_on.f, impl_VecTop.f]
        rw [if_pos (by omega), if_pos (by omega)]
        rfl
      refine Ev.next (Ev.bind hc (f := fun k t => if t = true then impl_mains.l0 k L acc ((r + 1 : Nat) : Int) else impl_mains.l0 k L (acc ++ [(r : Int)]) ((r + 1 : Nat) : Int)) ?_) fun k => ?_
      · rw [mains_cons L r hr]
        cases hm : mainAt L (r : Int) with
        | true =>
          have : (L.any fun x => !mainX r x) = false := by
            unfold mainAt at hm; simp only [Bool.and_eq_true] at hm
            rw [List.any_eq_false]; intro x hx; simpa using (List.all_eq_true.1 hm.2) x hx
          rw [this]
          simpa using h1
        | false =>
          have : (L.any fun x => !mainX r x) = true := by
            unfold mainAt at hm; rw [decide_eq_true h0, Bool.true_and] at hm
            rw [← Bool.not_eq_false, ← List.not_all_eq_any_not, hm]; decide
          rw [this]
          simpa using h2
      · simp only [impl_mains.l0]
        rw [if_pos (by omega), if_pos (by omega), wrap_succ (by omega)]
        simp only [if_pos (show acc.length < 17592186044416 by omega)]
    · have hm : mainAt L (r : Int) = false := by unfold mainAt; simp [h0]
      refine Ev.to (Ev.next h2 fun k => ?_) (by rw [mains_cons L r hr, hm]; simp)
      simp only [impl_mains.l0]
      rw [if_pos (by omega), if_neg (by omega), wrap_succ (by omega)]

theorem iMains_ev (L : List S41) (hl : L.length ≤ 1048576) : Ev (fun k => impl_mains.f k L) (mainsM L) := by
  have := iMains_loop L hl 0 (by omega) [] (by simp)
  simpa [impl_mains.f, mainsM] using this

theorem iStride_eq (b : Int) : impl_Stride.f b = some (stride b) := by
  unfold impl_Stride.f stride
  rw [isWeight_eq]
  by_cases h : 1 ≤ b ∧ b ≤ 10
  · simp only [Option.bind_some, decide_eq_true h, if_true, if_pos h]
    rw [if_neg (by omega), wrap_stride b (by omega)]
  · simp only [Option.bind_some, decide_eq_false h, if_neg h]
    rfl

theorem iMine_loop (L : List S41) (id : Int) (hl : L.length ≤ 1048576) : ∀ n, n ≤ L.length → ∀ acc : List S41, acc.length ≤ n → Ev (fun k => impl_dealsOf.l0 k id acc L (L.length : Int) (n : Int)) (acc ++ mineM (L.drop n) id) := by
  refine down ?_ ?_
  · intro acc ha
    refine Ev.next (f := fun _ => some _) (Ev.now _) fun k => ?_
    simp only [impl_dealsOf.l0]; rw [if_neg (by omega)]; simp [mineM]
  · intro n hn ih acc ha
    have hd : mineM (L.drop n) id = mineM (L[n] :: L.drop (n + 1)) id := by rw [← List.drop_eq_getElem_cons hn]
    by_cases h : L[n].f0 = id
    · refine Ev.to (Ev.next (ih (acc ++ [L[n]]) (by simp; omega)) fun k => ?_) (by rw [hd]; unfold mineM; rw [List.filter_cons]; simp only [h, decide_true, decide_false, if_true, List.append_assoc, List.singleton_append, if_neg (show ¬ (false = true) by decide)])
      simp only [impl_dealsOf.l0]
      rw [if_pos (by omega), if_pos (by omega), if_pos (by omega), rdD_nat L n hn, if_pos h, if_pos (by omega), wrap_succ (by omega)]
    · refine Ev.to (Ev.next (ih acc (by omega)) fun k => ?_) (by rw [hd]; unfold mineM; rw [List.filter_cons]; simp only [h, decide_true, decide_false, if_true, List.append_assoc, List.singleton_append, if_neg (show ¬ (false = true) by decide)])
      simp only [impl_dealsOf.l0]
      rw [if_pos (by omega), if_pos (by omega), if_pos (by omega), rdD_nat L n hn, if_neg h, wrap_succ (by omega)]

theorem iMine_ev (L : List S41) (id : Int) (hl : L.length ≤ 1048576) : Ev (fun k => impl_dealsOf.f k L id) (mineM L id) := by
  have := iMine_loop L id hl 0 (by omega) [] (by simp)
  simpa [impl_dealsOf.f] using this


/-- The weight of the first deal. -/
abbrev headW (L : List S41) : Int := (rd_T41 L 0).f1
def sameM (L : List S41) : Bool := L.all fun x => decide (x.f1 = headW L)
/-- The part of a sum. -/
def onM (v : Int × Int × Int) (r : Int) : Int := ar3 v.1 v.2.1 v.2.2 r
def gapStep (L1 L2 : List S41) (b p q : Int) : Int := mx (mx b (wrap64 (wrap64 (stride (headW L1) * onM (sumM L1) p) - wrap64 (stride (headW L2) * onM (sumM L2) q)))) (wrap64 (-(wrap64 (wrap64 (stride (headW L1) * onM (sumM L1) p) - wrap64 (stride (headW L2) * onM (sumM L2) q)))))
def gapIn (L1 L2 : List S41) (p : Int) (b : Int) : Int := (mainsM L2).foldl (fun b q => gapStep L1 L2 b p q) b
def gapM (L1 L2 : List S41) : Int := if (sameM L1 && sameM L2) = true then (mainsM L1).foldl (fun b p => gapIn L1 L2 p b) (-1) else -1

theorem sOne_loop (L : List S41) (hl : L.length ≤ 1048576) : ∀ n, n ≤ L.length → Ev (fun k => spec_l19One.l0 k L (n : Int)) ((L.drop n).all fun x => decide (x.f1 = headW L)) := by
  refine down ?_ ?_
  · refine Ev.next (f := fun _ => some _) (Ev.now _) fun k => ?_
    simp only [spec_l19One.l0]; rw [if_neg (by omega)]; simp
  · intro n hn ih
    rw [all_drop hn]
    by_cases h : L[n].f1 = headW L
    · refine Ev.to (Ev.next ih fun k => ?_) (by simp [h])
      simp only [spec_l19One.l0]
      rw [if_pos (by omega), if_pos (by omega), if_pos (by omega), rdD_nat L n hn, if_pos h, wrap_succ (by omega)]
    · refine Ev.to (Ev.next (f := fun _ => some false) (Ev.now _) fun k => ?_) (by simp [h])
      simp only [spec_l19One.l0]
      rw [if_pos (by omega), if_pos (by omega), if_pos (by omega), rdD_nat L n hn, if_neg h]

theorem sOne_ev (L : List S41) (hl : L.length ≤ 1048576) : Ev (fun k => spec_l19One.f k L) (sameM L) := by
  have := sOne_loop L hl 0 (by omega)
  simpa [spec_l19One.f, sameM] using this

theorem iSame_ev (L : List S41) (hl : L.length ≤ 1048576) : Ev (fun k => impl_sameWeights.f k L) (sameM L) := by
  unfold impl_sameWeights.f
  refine Ev.to (Ev.bind (iContainsD L hl (fun _ z0_ z1_ z2_ z3_ z4_ z5_ => impl_sameWeights_1.f z0_ z1_ z2_ z3_ z4_ z5_ L) (fun x => x.f1 != headW L) ?_) (f := fun _ t => some (!t)) (Ev.now _)) ?_
  · intro x hx
    refine Ev.now' fun k => ?_
    unfold impl_sameWeights_1.f
    have : 0 < L.length := List.length_pos_of_mem hx
    rw [if_pos (by omega)]
  · unfold sameM
    rw [Bool.eq_iff_iff]
    simp

theorem rd_mem {l : List Int} {n : Nat} (h : n < l.length) : rd l (n : Int) ∈ l := by
  rw [rd_nat, getD_lt 0 h]; exact List.getElem_mem h

theorem sGap_in (L1 L2 : List S41) (h1 : L1.length ≤ 1048576) (h2 : L2.length ≤ 1048576) (i : Nat) (hi : i < (mainsM L1).length) (nxt : Int → Int)
    (hn : ∀ b, Ev (fun k => spec_l19Gap.l0 k L1 L2 (mainsM L1) (mainsM L2) b ((i + 1 : Nat) : Int)) (nxt b)) : ∀ j, j ≤ (mainsM L2).length → ∀ b,
    Ev (fun k => spec_l19Gap.l1 k L1 L2 (mainsM L1) (mainsM L2) b (i : Int) (j : Int)) (nxt (((mainsM L2).drop j).foldl (fun b q => gapStep L1 L2 b (rd (mainsM L1) i) q) b)) := by
  have m1 := mains_len L1
  have m2 := mains_len L2
  refine down ?_ ?_
  · intro b
    refine Ev.to (Ev.next (hn b) fun k => ?_) (by simp)
    simp only [spec_l19Gap.l1]; rw [if_neg (by omega), wrap_succ (by omega)]
  · intro j hj ih b
    obtain ⟨a1, a2, a3⟩ := mains_mem (rd_mem hi)
    obtain ⟨b1, b2, b3⟩ := mains_mem (rd_mem hj)
    refine Ev.to (Ev.next (f := fun k => (spec_l19Sum.f k L1).bind fun s1 => (spec_l19Sum.f k L2).bind fun s2 => spec_l19Gap.l1 k L1 L2 (mainsM L1) (mainsM L2) (mx (mx b (wrap64 (wrap64 (stride (headW L1) * onM s1 (rd (mainsM L1) i)) - wrap64 (stride (headW L2) * onM s2 (rd (mainsM L2) j))))) (wrap64 (-(wrap64 (wrap64 (stride (headW L1) * onM s1 (rd (mainsM L1) i)) - wrap64 (stride (headW L2) * onM s2 (rd (mainsM L2) j))))))) (i : Int) ((j + 1 : Nat) : Int)) ?_ fun k => ?_) rfl
    · refine Ev.bind (sSum_ev L1 h1) (Ev.bind (sSum_ev L2 h2) ?_)
      refine Ev.to (ih _) ?_
      rw [List.drop_eq_getElem_cons hj, List.foldl_cons, rd_nat (mainsM L2), getD_lt 0 hj]
      rfl
    · simp only [spec_l19Gap.l1, spec_l13List.f, sStride_eq]
      rw [if_pos (by omega), if_pos (by omega)]
      simp only [Option.bind_some]
      congr 1; funext s1
      rw [if_pos (by omega), if_pos (by omega), if_pos a2, if_pos (by simpa using a3), if_pos (by omega)]
      congr 1; funext s2
      rw [if_pos (by omega), if_pos b2, if_pos (by simpa using b3), wrap_succ (by omega), rd_three _ _ _ _ a2 a3, rd_three _ _ _ _ b2 b3]
      rfl

theorem sGap_out (L1 L2 : List S41) (h1 : L1.length ≤ 1048576) (h2 : L2.length ≤ 1048576) : ∀ i, i ≤ (mainsM L1).length → ∀ b,
    Ev (fun k => spec_l19Gap.l0 k L1 L2 (mainsM L1) (mainsM L2) b (i : Int)) (((mainsM L1).drop i).foldl (fun b p => gapIn L1 L2 p b) b) := by
  have m1 := mains_len L1
  refine down ?_ ?_
  · intro b
    refine Ev.to (Ev.next (f := fun _ => some b) (Ev.now _) fun k => ?_) (by simp)
    simp only [spec_l19Gap.l0]; rw [if_neg (by omega)]
  · intro i hi ih b
    have := sGap_in L1 L2 h1 h2 i hi _ ih 0 (by omega) b
    refine Ev.to (Ev.next this fun k => ?_) ?_
    · simp only [spec_l19Gap.l0]; rw [if_pos (by omega)]; rfl
    · rw [List.drop_eq_getElem_cons hi, List.foldl_cons, List.drop_zero, rd_nat, getD_lt 0 hi]
      rfl

theorem sGap_ev (L1 L2 : List S41) (h1 : L1.length ≤ 1048576) (h2 : L2.length ≤ 1048576) : Ev (fun k => spec_l19Gap.f k L1 L2) (gapM L1 L2) := by
  have hj : ∀ t : Bool, Ev (fun k => spec_l19Gap.j0 k L1 L2 (!t)) (if t = true then (mainsM L1).foldl (fun b p => gapIn L1 L2 p b) (-1) else -1) := by
    intro t
    cases t with
    | false => exact Ev.next (f := fun _ => some (-1)) (Ev.now _) fun k => by simp [spec_l19Gap.j0]
    | true =>
      have := sGap_out L1 L2 h1 h2 0 (by omega) (-1)
      refine Ev.next (f := fun k => (spec_l19Mains.f k L1).bind fun t151 => ((spec_l19Mains.f k L2).bind fun t154 => (spec_l19Gap.l0 k L1 L2 t151 t154 (-1) 0))) (Ev.bind (sMains_ev L1 h1) (Ev.bind (sMains_ev L2 h2) ?_)) fun k => ?_
      · simpa using this
      · simp [spec_l19Gap.j0]
  unfold spec_l19Gap.f
  refine Ev.bind (sOne_ev L1 h1) ?_
  unfold gapM
  cases sameM L1 with
  | false => simpa using hj false
  | true =>
    simp only [if_true, Bool.true_and]
    exact Ev.bind (sOne_ev L2 h2) (f := fun k t => spec_l19Gap.j0 k L1 L2 (!t)) (hj _)

theorem iGap_in (L1 L2 : List S41) (h1 : L1.length ≤ 1048576) (h2 : L2.length ≤ 1048576) (i : Nat) (hi : i < (mainsM L1).length) (nxt : Int → Int)
    (hn : ∀ b, Ev (fun k => impl_gapOf.l0 k L1 L2 b (mainsM L1) ((mainsM L1).length : Int) ((i + 1 : Nat) : Int)) (nxt b)) : ∀ j, j ≤ (mainsM L2).length → ∀ b,
    Ev (fun k => impl_gapOf.l1 k L1 L2 b (rd (mainsM L1) i) (mainsM L1) ((mainsM L1).length : Int) (i : Int) (mainsM L2) ((mainsM L2).length : Int) (j : Int)) (nxt (((mainsM L2).drop j).foldl (fun b q => gapStep L1 L2 b (rd (mainsM L1) i) q) b)) := by
  have m1 := mains_len L1
  have m2 := mains_len L2
  refine down ?_ ?_
  · intro b
    refine Ev.to (Ev.next (hn b) fun k => ?_) (by simp)
    simp only [impl_gapOf.l1]; rw [if_neg (by omega), wrap_succ (by omega)]
  · intro j hj ih b
    obtain ⟨a1, a2, a3⟩ := mains_mem (rd_mem hi)
    obtain ⟨b1, b2, b3⟩ := mains_mem (rd_mem hj)
    refine Ev.to (Ev.next (f := fun k => (impl_taken.f k L1).bind fun s1 => (impl_taken.f k L2).bind fun s2 => impl_gapOf.l1 k L1 L2 (mx (mx b (wrap64 (wrap64 (stride (headW L1) * onM s1 (rd (mainsM L1) i)) - wrap64 (stride (headW L2) * onM s2 (rd (mainsM L2) j))))) (wrap64 (-(wrap64 (wrap64 (stride (headW L1) * onM s1 (rd (mainsM L1) i)) - wrap64 (stride (headW L2) * onM s2 (rd (mainsM L2) j))))))) (rd (mainsM L1) i) (mainsM L1) ((mainsM L1).length : Int) (i : Int) (mainsM L2) ((mainsM L2).length : Int) ((j + 1 : Nat) : Int)) ?_ fun k => ?_) rfl
    · refine Ev.bind (iSum_ev L1 h1) (Ev.bind (iSum_ev L2 h2) ?_)
      refine Ev.to (ih _) ?_
      rw [List.drop_eq_getElem_cons hj, List.foldl_cons, rd_nat (mainsM L2), getD_lt 0 hj]
      rfl
    · simp only [impl_gapOf.l1, impl_Vec_on.f, iStride_eq]
      rw [if_pos (by omega), if_pos (by omega), if_pos (by omega), if_pos (by omega)]
      simp only [Option.bind_some]
      congr 1; funext s1
      rw [if_pos a2, if_pos a3]
      simp only [Option.bind_some]
      rw [if_pos (by omega)]
      congr 1; funext s2
      rw [if_pos b2, if_pos b3, wrap_succ (by omega)]
      rfl

theorem iGap_out (L1 L2 : List S41) (h1 : L1.length ≤ 1048576) (h2 : L2.length ≤ 1048576) : ∀ i, i ≤ (mainsM L1).length → ∀ b,
    Ev (fun k => impl_gapOf.l0 k L1 L2 b (mainsM L1) ((mainsM L1).length : Int) (i : Int)) (((mainsM L1).drop i).foldl (fun b p => gapIn L1 L2 p b) b) := by
  have m1 := mains_len L1
  refine down ?_ ?_
  · intro b
    refine Ev.to (Ev.next (f := fun _ => some b) (Ev.now _) fun k => ?_) (by simp)
    simp only [impl_gapOf.l0]; rw [if_neg (by omega)]
  · intro i hi ih b
    have := iGap_in L1 L2 h1 h2 i hi _ ih 0 (by omega) b
    refine Ev.to (Ev.next (f := fun k => (impl_mains.f k L2).bind fun t316 => (impl_gapOf.l1 k L1 L2 b (rd (mainsM L1) i) (mainsM L1) ((mainsM L1).length : Int) (i : Int) t316 (t316.length : Int) 0)) (Ev.bind (iMains_ev L2 h2) this) fun k => ?_) ?_
    · simp only [impl_gapOf.l0]; rw [if_pos (by omega), if_pos (by omega), if_pos (by omega)]
    · rw [List.drop_eq_getElem_cons hi, List.foldl_cons, List.drop_zero, rd_nat, getD_lt 0 hi]
      rfl

/-- What the program's gapOf computes on some deals. -/
def gapD (L : List S41) (a b : Int) : Int := if bothM L a b = true then gapM (mineM L a) (mineM L b) else -1

theorem bothBusy_ev (L : List S41) (i j : Int) (hl : L.length ≤ 1048576) (hx : ∀ x ∈ L, x.f3.length ≤ 1048576) : Ev (fun k => impl_bothBusy.f k L i j) (bothM L i j) := by
  unfold impl_bothBusy.f
  refine Ev.to (Ev.bind (iContainsD L hl (fun k z0 z1 z2 z3 z4 z5 => impl_bothBusy_1.f k z0 z1 z2 z3 z4 z5 i j) (fun x => !(decide (i ∈ x.f3) && decide (j ∈ x.f3))) ?_) (f := fun _ t => some (!t)) (Ev.now _)) ?_
  · intro x hxm
    have hxx := hx x hxm
    unfold impl_bothBusy_1.f
    refine Ev.bind (iContains_ev x.f3 i (by omega)) ?_
    by_cases hi : i ∈ x.f3
    · simp only [decide_eq_true hi, if_true, Bool.true_and]
      exact Ev.bind (iContains_ev x.f3 j (by omega)) (f := fun _ t => some (!t)) (Ev.now _)
    · exact Ev.now' fun k => by simp [hi]
  · rw [Bool.eq_iff_iff]; simp [bothM]

theorem iGapOf_ev (L : List S41) (a b : Int) (hl : L.length ≤ 1048576) (hx : ∀ x ∈ L, x.f3.length ≤ 1048576) : Ev (fun k => impl_gapOf.f k L a b) (gapD L a b) := by
  have m1 := mine_len L a
  have m2 := mine_len L b
  have hj : ∀ t : Bool, Ev (fun k => impl_gapOf.j0 k (mineM L a) (mineM L b) (!t)) (if t = true then (mainsM (mineM L a)).foldl (fun s p => gapIn (mineM L a) (mineM L b) p s) (-1) else -1) := by
    intro t
    cases t with
    | false => exact Ev.next (f := fun _ => some (-1)) (Ev.now _) fun k => by simp [impl_gapOf.j0]
    | true =>
      have := iGap_out (mineM L a) (mineM L b) (by omega) (by omega) 0 (by omega) (-1)
      refine Ev.next (f := fun k => (impl_mains.f k (mineM L a)).bind fun t312 => (impl_gapOf.l0 k (mineM L a) (mineM L b) (-1) t312 (t312.length : Int) 0)) (Ev.bind (iMains_ev _ (by omega)) ?_) fun k => ?_
      · simpa using this
      · simp [impl_gapOf.j0]
  unfold impl_gapOf.f
  refine Ev.bind (iMine_ev L a hl) (Ev.bind (iMine_ev L b hl) (Ev.bind (bothBusy_ev L a b hl hx) ?_))
  unfold gapD gapM
  cases bothM L a b with
  | false => simpa using hj false
  | true =>
    simp only [if_true]
    refine Ev.bind (iSame_ev (mineM L a) (by omega)) ?_
    cases sameM (mineM L a) with
    | false => simpa using hj false
    | true =>
      simp only [if_true, Bool.true_and]
      exact Ev.bind (iSame_ev (mineM L b) (by omega)) (f := fun k t => impl_gapOf.j0 k (mineM L a) (mineM L b) (!t)) (hj _)

/-- The deals from n up to m. -/
def segM (L : List S41) (n m : Nat) : List S41 := (L.take m).drop n
def bothAt (x : S41) (a b : Int) : Bool := decide (a ∈ x.f3) && decide (b ∈ x.f3)
def updM (t : Int × Int × Int) (g : Int) (n m : Nat) : Int × Int × Int := if g > t.2.2 then ((n : Int), (m : Int), g) else t
def innerM (L : List S41) (a b : Int) (n : Nat) : Nat → Nat → Int × Int × Int → Int × Int × Int
  | 0, _, t => t
  | d + 1, m, t => if bothAt (L.getD m z41) a b = true then innerM L a b n d (m + 1) (updM t (gapD (segM L n (m + 1)) a b) n (m + 1)) else t
def outerM (L : List S41) (a b : Int) : Nat → Nat → Int × Int × Int → Int × Int × Int
  | 0, _, t => t
  | d + 1, n, t => outerM L a b d (n + 1) (innerM L a b n (L.length - n) n t)

theorem wrap_back {m : Nat} (h : m < 4611686018427387904) : wrap64 (((m + 1 : Nat) : Int) - 1) = (m : Int) := by
  rw [wrap_id (by omega) (by omega)]; omega

theorem updM_ge {t : Int × Int × Int} {g : Int} {n m : Nat} (h : -1 ≤ t.2.2) : -1 ≤ (updM t g n m).2.2 := by
  unfold updM; split
  · show -1 ≤ g; omega
  · exact h
theorem updM_le (t : Int × Int × Int) (g : Int) (n m : Nat) : g ≤ (updM t g n m).2.2 := by
  unfold updM; split
  · exact Int.le_refl _
  · omega
theorem innerM_ge {L : List S41} {a b : Int} {n : Nat} : ∀ d m t, -1 ≤ t.2.2 → -1 ≤ (innerM L a b n d m t).2.2 := by
  intro d
  induction d with
  | zero => intro m t h; exact h
  | succ d ih =>
    intro m t h; rw [innerM]; split
    · exact ih _ _ (updM_ge h)
    · exact h

theorem seg_next {L : List S41} {n m : Nat} (h : n ≤ m) (hm : m < L.length) : segM L n (m + 1) = segM L n m ++ [L[m]] := by
  unfold segM
  rw [List.take_add_one, List.getElem?_eq_getElem hm]
  simp only [Option.toList_some]
  rw [List.drop_append_of_le_length (by rw [List.length_take]; omega)]
theorem seg_one {L : List S41} {m : Nat} (hm : m < L.length) : segM L m (m + 1) = [L[m]] := by
  rw [seg_next (Nat.le_refl m) hm]
  have : segM L m m = [] := by unfold segM; exact List.drop_eq_nil_of_le (by rw [List.length_take]; omega)
  rw [this]; rfl
theorem seg_mem {L : List S41} {n m : Nat} {x : S41} (h : x ∈ segM L n m) : x ∈ L := List.mem_of_mem_take (List.mem_of_mem_drop h)
theorem seg_len (L : List S41) (n m : Nat) : (segM L n m).length ≤ L.length := by
  unfold segM; rw [List.length_drop, List.length_take]; omega
theorem mine_next {L : List S41} {a : Int} {x : S41} : mineM (L ++ [x]) a = if x.f0 = a then mineM L a ++ [x] else mineM L a := by
  unfold mineM
  rw [List.filter_append]
  by_cases h : x.f0 = a
  · simp [h]
  · simp [h]
theorem both_next {L : List S41} {a b : Int} {x : S41} : bothM (L ++ [x]) a b = (bothM L a b && bothAt x a b) := by
  unfold bothM bothAt; rw [List.all_append]; simp

theorem iW_in (L : List S41) (a b : Int) (hl : L.length ≤ 1048576) (hx : ∀ x ∈ L, x.f3.length ≤ 1048576) (n : Nat) (nxt : Int × Int × Int → Int × Int × Int)
    (hn : ∀ t, Ev (fun k => impl_WorstSpan.l0 k L a b (L.length : Int) ((n + 1 : Nat) : Int) t.1 t.2.1 t.2.2) (nxt t)) : ∀ d m, m + d = L.length → n ≤ m → ∀ t : Int × Int × Int,
    Ev (fun k => impl_WorstSpan.l1 k L a b (n : Int) ((m + 1 : Nat) : Int) (L.length : Int) (n : Int) t.1 t.2.1 t.2.2) (nxt (innerM L a b n d m t)) := by
  intro d
  induction d with
  | zero =>
    intro m hm hnm t
    refine Ev.next (hn t) fun k => ?_
    simp only [impl_WorstSpan.l1]; rw [if_neg (by omega), wrap_succ (by omega)]
  | succ d ih =>
    intro m hm hnm t
    have hlt : m < L.length := by omega
    have hg : L.getD m z41 = L[m] := getD_lt _ hlt
    have h1 := seg_len L n (m + 1)
    refine Ev.next (f := fun k => (impl_bothBusy.f k (segM L m (m + 1)) a b).bind fun t347 => if t347 = true then ((impl_gapOf.f k (segM L n (m + 1)) a b).bind fun g => if g > t.2.2 then impl_WorstSpan.l1 k L a b (n : Int) ((m + 1 + 1 : Nat) : Int) (L.length : Int) (n : Int) (n : Int) ((m + 1 : Nat) : Int) g else impl_WorstSpan.l1 k L a b (n : Int) ((m + 1 + 1 : Nat) : Int) (L.length : Int) (n : Int) t.1 t.2.1 t.2.2) else impl_WorstSpan.l0 k L a b (L.length : Int) ((n + 1 : Nat) : Int) t.1 t.2.1 t.2.2) ?_ fun k => ?_
    · refine Ev.bind (bothBusy_ev (segM L m (m + 1)) a b (by have := seg_len L m (m + 1); omega) (fun x h => hx x (seg_mem h))) ?_
      rw [innerM, hg]
      have e : bothM (segM L m (m + 1)) a b = bothAt L[m] a b := by rw [seg_one hlt]; simp [bothM, bothAt]
      rw [e]
      cases bothAt L[m] a b with
      | false => simpa using hn t
      | true =>
        simp only [if_true]
        refine Ev.bind (iGapOf_ev (segM L n (m + 1)) a b (by omega) (fun x h => hx x (seg_mem h))) ?_
        unfold updM
        by_cases hgt : gapD (segM L n (m + 1)) a b > t.2.2
        · simp only [if_pos hgt]; exact ih (m + 1) (by omega) (by omega) ((n : Int), ((m + 1 : Nat) : Int), gapD (segM L n (m + 1)) a b)
        · simp only [if_neg hgt]; exact ih (m + 1) (by omega) (by omega) t
    · simp only [impl_WorstSpan.l1]
      rw [if_pos (by omega), wrap_back (by omega), if_pos (by omega), if_pos (by omega), if_pos (by omega), if_pos (by omega), wrap_succ (n := m + 1) (by omega), wrap_succ (n := n) (by omega)]
      simp only [Int.toNat_natCast]
      rfl

theorem iW_out (L : List S41) (a b : Int) (hl : L.length ≤ 1048576) (hx : ∀ x ∈ L, x.f3.length ≤ 1048576) : ∀ d n, n + d = L.length → ∀ t : Int × Int × Int,
    Ev (fun k => impl_WorstSpan.l0 k L a b (L.length : Int) (n : Int) t.1 t.2.1 t.2.2) (outerM L a b d n t) := by
  intro d
  induction d with
  | zero =>
    intro n hn t
    refine Ev.next (f := fun _ => some t) (Ev.now _) fun k => ?_
    simp only [impl_WorstSpan.l0]; rw [if_neg (by omega)]
  | succ d ih =>
    intro n hn t
    have := iW_in L a b hl hx n (outerM L a b d (n + 1)) (fun t => ih (n + 1) (by omega) t) (L.length - n) n (by omega) (Nat.le_refl n) t
    refine Ev.next this fun k => ?_
    simp only [impl_WorstSpan.l0]; rw [if_pos (by omega), wrap_succ (by omega)]

theorem iW_ev (L : List S41) (a b : Int) (hl : L.length ≤ 1048576) (hx : ∀ x ∈ L, x.f3.length ≤ 1048576) : Ev (fun k => impl_WorstSpan.f k L a b) (if dealsOkM L = true then outerM L a b L.length 0 (0, 0, -1) else (0, 0, -1)) := by
  unfold impl_WorstSpan.f
  refine Ev.bind (iDeals_ev L hl hx) ?_
  cases dealsOkM L with
  | false => exact Ev.now' fun k => by simp
  | true => simp only [if_true]; exact iW_out L a b hl hx L.length 0 (by omega) (0, 0, -1)

theorem sW_in (L : List S41) (a b : Int) (hl : L.length ≤ 1048576) (hx : ∀ x ∈ L, x.f3.length ≤ 1048576) (n : Nat) (nxt : Int × Int × Int → Int × Int × Int)
    (hn : ∀ t, -1 ≤ t.2.2 → Ev (fun k => spec_WorstSpan.l0 k L a b ((n + 1 : Nat) : Int) t.1 t.2.1 t.2.2) (nxt t)) : ∀ d m, m + d = L.length → n ≤ m → ∀ (x y : List S41) (t : Int × Int × Int),
    x = mineM (segM L n m) a → y = mineM (segM L n m) b → bothM (segM L n m) a b = true → gapM x y ≤ t.2.2 → -1 ≤ t.2.2 →
    Ev (fun k => spec_WorstSpan.l1 k L a b (n : Int) x y ((m + 1 : Nat) : Int) t.1 t.2.1 t.2.2) (nxt (innerM L a b n d m t)) := by
  intro d
  induction d with
  | zero =>
    intro m hm hnm x y t _ _ _ _ h0
    refine Ev.next (hn t h0) fun k => ?_
    simp only [spec_WorstSpan.l1]; rw [if_neg (by omega), wrap_succ (by omega)]
  | succ d ih =>
    intro m hm hnm x y t ex ey hb hg0 h0
    have hlt : m < L.length := by omega
    have hg : L.getD m z41 = L[m] := getD_lt _ hlt
    have hxm := hx _ (List.getElem_mem hlt)
    have hs := seg_len L n m
    have lx : x.length ≤ 1048576 := by rw [ex]; have := mine_len (segM L n m) a; omega
    have ly : y.length ≤ 1048576 := by rw [ey]; have := mine_len (segM L n m) b; omega
    have hseg := seg_next hnm hlt
    refine Ev.next (f := fun k => (spec_l19In.f k L[m].f3 a).bind fun t223 => if t223 = true then ((spec_l19In.f k L[m].f3 b).bind fun t224 => if t224 = true then
        (if L[m].f0 = a then (if L[m].f0 = b then ((spec_l19Gap.f k (x ++ [L[m]]) (y ++ [L[m]])).bind fun g => if g > t.2.2 then spec_WorstSpan.l1 k L a b (n : Int) (x ++ [L[m]]) (y ++ [L[m]]) ((m + 1 + 1 : Nat) : Int) (n : Int) ((m + 1 : Nat) : Int) g else spec_WorstSpan.l1 k L a b (n : Int) (x ++ [L[m]]) (y ++ [L[m]]) ((m + 1 + 1 : Nat) : Int) t.1 t.2.1 t.2.2)
            else ((spec_l19Gap.f k (x ++ [L[m]]) y).bind fun g => if g > t.2.2 then spec_WorstSpan.l1 k L a b (n : Int) (x ++ [L[m]]) y ((m + 1 + 1 : Nat) : Int) (n : Int) ((m + 1 : Nat) : Int) g else spec_WorstSpan.l1 k L a b (n : Int) (x ++ [L[m]]) y ((m + 1 + 1 : Nat) : Int) t.1 t.2.1 t.2.2))
          else (if L[m].f0 = b then ((spec_l19Gap.f k x (y ++ [L[m]])).bind fun g => if g > t.2.2 then spec_WorstSpan.l1 k L a b (n : Int) x (y ++ [L[m]]) ((m + 1 + 1 : Nat) : Int) (n : Int) ((m + 1 : Nat) : Int) g else spec_WorstSpan.l1 k L a b (n : Int) x (y ++ [L[m]]) ((m + 1 + 1 : Nat) : Int) t.1 t.2.1 t.2.2)
            else spec_WorstSpan.l1 k L a b (n : Int) x y ((m + 1 + 1 : Nat) : Int) t.1 t.2.1 t.2.2))
        else spec_WorstSpan.l0 k L a b ((n + 1 : Nat) : Int) t.1 t.2.1 t.2.2) else spec_WorstSpan.l0 k L a b ((n + 1 : Nat) : Int) t.1 t.2.1 t.2.2) ?_ fun k => ?_
    · rw [innerM, hg]
      refine Ev.bind (sIn_ev L[m].f3 a (by omega)) ?_
      by_cases ha : a ∈ L[m].f3
      · simp only [decide_eq_true ha, if_true]
        refine Ev.bind (sIn_ev L[m].f3 b (by omega)) ?_
        by_cases hbm : b ∈ L[m].f3
        · have hba : bothAt L[m] a b = true := by simp [bothAt, ha, hbm]
          have hb' : bothM (segM L n (m + 1)) a b = true := by rw [hseg, both_next, hb, hba]; rfl
          simp only [decide_eq_true hbm, if_true, hba]
          have main : ∀ x' y', x' = mineM (segM L n (m + 1)) a → y' = mineM (segM L n (m + 1)) b → x'.length ≤ 1048577 → y'.length ≤ 1048577 →
              Ev (fun k => (spec_l19Gap.f k x' y').bind fun g => if g > t.2.2 then spec_WorstSpan.l1 k L a b (n : Int) x' y' ((m + 1 + 1 : Nat) : Int) (n : Int) ((m + 1 : Nat) : Int) g else spec_WorstSpan.l1 k L a b (n : Int) x' y' ((m + 1 + 1 : Nat) : Int) t.1 t.2.1 t.2.2)
                (nxt (innerM L a b n d (m + 1) (updM t (gapD (segM L n (m + 1)) a b) n (m + 1)))) := by
            intro x' y' ex' ey' _ _
            have hg' : gapD (segM L n (m + 1)) a b = gapM x' y' := by unfold gapD; rw [if_pos hb', ex', ey']
            have l1 := seg_len L n (m + 1)
            have l2 := mine_len (segM L n (m + 1)) a
            have l3 := mine_len (segM L n (m + 1)) b
            rw [hg']
            refine Ev.bind (sGap_ev x' y' (by rw [ex']; omega) (by rw [ey']; omega)) ?_
            have hle := updM_le t (gapM x' y') n (m + 1)
            have hge := updM_ge (g := gapM x' y') (n := n) (m := m + 1) h0
            have hi := ih (m + 1) (by omega) (by omega) x' y' (updM t (gapM x' y') n (m + 1)) ex' ey' hb' hle hge
            by_cases hgt : gapM x' y' > t.2.2
            · have e : updM t (gapM x' y') n (m + 1) = ((n : Int), ((m + 1 : Nat) : Int), gapM x' y') := if_pos hgt
              rw [e] at hi ⊢
              simp only [if_pos hgt]; exact hi
            · have e : updM t (gapM x' y') n (m + 1) = t := if_neg hgt
              rw [e] at hi ⊢
              simp only [if_neg hgt]; exact hi
          have ma : mineM (segM L n (m + 1)) a = if L[m].f0 = a then x ++ [L[m]] else x := by rw [hseg, mine_next, ex]
          have mb : mineM (segM L n (m + 1)) b = if L[m].f0 = b then y ++ [L[m]] else y := by rw [hseg, mine_next, ey]
          by_cases h1 : L[m].f0 = a
          · rw [if_pos h1] at ma
            by_cases h2 : L[m].f0 = b
            · rw [if_pos h2] at mb
              simp only [if_pos h1, if_pos h2]
              exact main _ _ ma.symm mb.symm (by simp; omega) (by simp; omega)
            · rw [if_neg h2] at mb
              simp only [if_pos h1, if_neg h2]
              exact main _ _ ma.symm mb.symm (by simp; omega) (by omega)
          · rw [if_neg h1] at ma
            by_cases h2 : L[m].f0 = b
            · rw [if_pos h2] at mb
              simp only [if_neg h1, if_pos h2]
              exact main _ _ ma.symm mb.symm (by omega) (by simp; omega)
            · rw [if_neg h2] at mb
              simp only [if_neg h1, if_neg h2]
              have e : updM t (gapD (segM L n (m + 1)) a b) n (m + 1) = t := by
                unfold updM gapD; rw [if_pos hb', ma, mb]; exact if_neg (by omega)
              rw [e]
              exact ih (m + 1) (by omega) (by omega) x y t ma.symm mb.symm hb' hg0 h0
        · have hba : bothAt L[m] a b = false := by simp [bothAt, hbm]
          simp only [decide_eq_false hbm, hba, if_neg (show ¬ (false = true) by decide)]
          exact hn t h0
      · have hba : bothAt L[m] a b = false := by simp [bothAt, ha]
        simp only [decide_eq_false ha, hba, if_neg (show ¬ (false = true) by decide)]
        exact hn t h0
    · simp only [spec_WorstSpan.l1]
      rw [if_pos (by omega), wrap_back (by omega), if_pos (by omega), if_pos (by omega), rdD_nat L m hlt, wrap_succ (n := m + 1) (by omega), wrap_succ (n := n) (by omega)]
      simp only [if_pos (show x.length < 2199023255552 by omega), if_pos (show y.length < 2199023255552 by omega), Option.bind_some]

theorem sW_out (L : List S41) (a b : Int) (hl : L.length ≤ 1048576) (hx : ∀ x ∈ L, x.f3.length ≤ 1048576) : ∀ d n, n + d = L.length → ∀ t : Int × Int × Int, -1 ≤ t.2.2 →
    Ev (fun k => spec_WorstSpan.l0 k L a b (n : Int) t.1 t.2.1 t.2.2) (outerM L a b d n t) := by
  intro d
  induction d with
  | zero =>
    intro n hn t _
    refine Ev.next (f := fun _ => some t) (Ev.now _) fun k => ?_
    simp only [spec_WorstSpan.l0]; rw [if_neg (by omega)]
  | succ d ih =>
    intro n hn t h0
    have e : segM L n n = [] := by unfold segM; exact List.drop_eq_nil_of_le (by rw [List.length_take]; omega)
    have g0 : gapM [] [] = -1 := rfl
    have := sW_in L a b hl hx n (outerM L a b d (n + 1)) (fun t h => ih (n + 1) (by omega) t h) (L.length - n) n (by omega) (Nat.le_refl n) [] [] t (by rw [e]; rfl) (by rw [e]; rfl) (by rw [e]; rfl) (by rw [g0]; exact h0) h0
    refine Ev.next this fun k => ?_
    simp only [spec_WorstSpan.l0]; rw [if_pos (by omega), wrap_succ (by omega)]

theorem sW_ev (L : List S41) (a b : Int) (hl : L.length ≤ 1048576) (hx : ∀ x ∈ L, x.f3.length ≤ 1048576) : Ev (fun k => spec_WorstSpan.f k L a b) (if dealsOkM L = true then outerM L a b L.length 0 (0, 0, -1) else (0, 0, -1)) := by
  unfold spec_WorstSpan.f
  refine Ev.bind (sDeals_ev L hl hx) ?_
  cases dealsOkM L with
  | false => exact Ev.now' fun k => by simp
  | true => simp only [if_true]; exact sW_out L a b hl hx L.length 0 (by omega) (0, 0, -1) (by decide)

theorem FnExactWorstSpan : laws_FnExactWorstSpan.Pure := by
  intro y0 y1 y2 hy0 _ _
  refine Ev.rounds ?_
  obtain ⟨s, hs, hd⟩ := szDeals_ev y0 hy0.1 (fun x hx => (hy0.2 x hx).2.2.2.1)
  unfold laws_FnExactWorstSpan.f
  refine Ev.bind hs ?_
  rcases hd with hd | ⟨hl, hx⟩
  · exact Ev.now' fun k => if_pos hd
  · by_cases hn : s < 0
    · exact Ev.now' fun k => if_pos hn
    · simp only [if_neg hn]
      have hT := toDeals_ev y0 hl hx
      have hl' : (y0.map toD).length ≤ 1048576 := by simpa using hl
      have hx' := toD_len hx
      refine Ev.bind hT (Ev.bind (sW_ev _ y1 y2 hl' hx') (Ev.bind hT (Ev.bind (iW_ev _ y1 y2 hl' hx') ?_)))
      simp only [laws_eqSpan.f, if_true, Option.bind_some]
      refine Ev.bind hT (Ev.bind (eqDeals_ev _ hl' hx') ?_)
      exact Ev.now' fun k => by simp

end Go.Proofs.Ytecabogkenabnaa.Pure
