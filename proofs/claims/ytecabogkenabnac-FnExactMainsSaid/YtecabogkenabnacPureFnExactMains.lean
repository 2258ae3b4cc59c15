/- The program's Mains returns what the reference's Mains returns, for every log, member and span (logs of which the law's own count speaks: any other answers true at once). No condition. -/
import Derived.Test.YtecabogkenabnacPFnExactMainsx6
namespace Go.Proofs.Ytecabogkenabnac.Pure
open Go.RowKit Go.Proofs.Ytecabogkenabnac.PFnExactMains Go.Proofs.YtecabogkenabnacW.PrintWords Go.Proofs.YtecabogkenabnacW.PrintLast Go.Proofs.YtecabogkenabnacW.PrintMore Go.Proofs.YtecabogkenabnacV
set_option linter.unusedVariables false
set_option linter.unusedSimpArgs false

theorem down {N : Nat} {P : Nat → Prop} (h0 : P N) (hs : ∀ n, n < N → P (n + 1) → P n) : ∀ n, n ≤ N → P n := by
  intro n hn
  obtain ⟨d, rfl⟩ : ∃ d, N = n + d := ⟨N - n, by omega⟩
  clear hn
  induction d generalizing n with
  | zero => exact h0
  | succ d ih => exact hs n (by omega) (ih (n + 1) (by rw [show n + 1 + d = n + (d + 1) by omega]; exact h0) (fun m hm hp => hs m (by omega) hp))

theorem wrap_id {x : Int} (h1 : -9223372036854775808 ≤ x) (h2 : x ≤ 9223372036854775807) : wrap64 x = x := by
  unfold wrap64; omega

theorem wrap_succ {n : Nat} (h : n < 4611686018427387904) : wrap64 ((n : Int) + 1) = ((n + 1 : Nat) : Int) := by
  rw [wrap_id (by omega) (by omega)]; omega

theorem wrap_pred {n : Nat} (h0 : 0 < n) (h : n < 4611686018427387904) : wrap64 ((n : Int) - 1) = ((n - 1 : Nat) : Int) := by
  rw [wrap_id (by omega) (by omega)]; omega

theorem getD_lt {α : Type} {l : List α} {n : Nat} (d : α) (h : n < l.length) : l.getD n d = l[n] := by
  rw [List.getD_eq_getElem?_getD, List.getElem?_eq_getElem h]; rfl

theorem rd_nat (l : List Int) (n : Nat) : rd l (n : Int) = l.getD n 0 := by
  unfold rd; simp

theorem Ev.now' {α : Type} {g : Nat → Option α} {r : α} (h : ∀ k, g k = some r) : Ev g r := ⟨0, fun k _ => h k⟩

/-- One round, and what follows. -/
theorem Ev.next {α : Type} {g f : Nat → Option α} {r : α} (k : Ev f r) (h : ∀ k, g (k + 1) = f k) : Ev g r := Ev.step h k

theorem Ev.to {α : Type} {g : Nat → Option α} {r q : α} (h : Ev g r) (e : r = q) : Ev g q := e ▸ h

theorem list_drop_cons {α : Type} {l : List α} {n : Nat} (h : n < l.length) : l.drop n = l[n] :: l.drop (n + 1) := List.drop_eq_getElem_cons h

theorem mem_drop {α : Type} {l : List α} {n : Nat} (h : n < l.length) {x : α} : x ∈ l.drop n ↔ x = l[n] ∨ x ∈ l.drop (n + 1) := by
  rw [List.drop_eq_getElem_cons h, List.mem_cons]

theorem any_drop {α : Type} {l : List α} {n : Nat} (h : n < l.length) (q : α → Bool) : (l.drop n).any q = (q l[n] || (l.drop (n + 1)).any q) := by
  rw [List.drop_eq_getElem_cons h, List.any_cons]

theorem all_drop {α : Type} {l : List α} {n : Nat} (h : n < l.length) (q : α → Bool) : (l.drop n).all q = (q l[n] && (l.drop (n + 1)).all q) := by
  rw [List.drop_eq_getElem_cons h, List.all_cons]

theorem dec_false {p : Prop} [Decidable p] (h : ¬ p) : false = decide p := (decide_eq_false h).symm
theorem dec_true {p : Prop} [Decidable p] (h : p) : true = decide p := (decide_eq_true h).symm
theorem dec_iff {p q : Prop} [Decidable p] [Decidable q] (h : p ↔ q) : decide p = decide q := decide_eq_decide.2 h

theorem toInts_loop (l : List Int) (hl : l.length < 4611686018427387904) : ∀ n, n ≤ l.length → ∀ acc : List Int, acc.length = l.length → acc.take n = l.take n → Ev (fun k => laws_toIntS.l0 k l acc (n : Int)) l := by
  refine down ?_ ?_
  · intro acc ha ht
    have e : acc = l := by rw [List.take_of_length_le (by omega), List.take_of_length_le (by omega)] at ht; exact ht
    subst e
    refine Ev.next (f := fun _ => some acc) (Ev.now acc) fun k => ?_
    simp only [laws_toIntS.l0]; rw [if_neg (by omega)]
  · intro n hn ih acc ha ht
    refine Ev.next (ih (acc.set n l[n]) (by simpa using ha) ?_) fun k => ?_
    · rw [List.take_set, List.take_add_one, List.take_add_one, ht, List.getElem?_eq_getElem hn, List.getElem?_eq_getElem (by omega)]
      have hl' : (l.take n).length = n := by rw [List.length_take]; omega
      simp only [Option.toList_some]
      rw [List.set_append_right _ _ (by omega), hl']
      simp
    · simp only [laws_toIntS.l0]
      rw [if_pos (by omega), if_pos (by omega), if_pos (by omega), wrap_succ (by omega), rd_nat, getD_lt 0 hn, Int.toNat_natCast]

theorem toInts_ev (l : List Int) (hl : l.length ≤ 1048576) : Ev (fun k => laws_toIntS.f k l) l := by
  refine Ev.congr (fun k => ?_) (toInts_loop l (by omega) 0 (by omega) (List.replicate l.length 0) (by simp) (by simp))
  unfold laws_toIntS.f
  rw [if_pos (by omega), if_pos (by omega)]
  simp

theorem eqInts_loop (l : List Int) (hl : l.length < 4611686018427387904) : ∀ n, n ≤ l.length → Ev (fun k => laws_eqIntS.l0 k l l (n : Int)) true := by
  refine down ?_ ?_
  · refine Ev.next (f := fun _ => some true) (Ev.now true) fun k => ?_
    simp only [laws_eqIntS.l0]; rw [if_neg (by omega)]
  · intro n hn ih
    refine Ev.next ih fun k => ?_
    simp only [laws_eqIntS.l0]
    rw [if_pos (by omega), if_pos (by omega), if_pos (by omega), if_pos trivial, wrap_succ (by omega)]

theorem eqInts_ev (l : List Int) (hl : l.length < 4611686018427387904) : Ev (fun k => laws_eqIntS.f k l l) true := by
  refine Ev.congr (fun k => ?_) (eqInts_loop l hl 0 (by omega))
  unfold laws_eqIntS.f
  rw [if_pos rfl]; rfl

theorem rdLD_nat (l : List S37) (n : Nat) (h : n < l.length) : rd_T37 l (n : Int) = l[n] := by
  unfold rd_T37; rw [Int.toNat_natCast, getD_lt _ h]

theorem rdD_nat (l : List S43) (n : Nat) (h : n < l.length) : rd_T43 l (n : Int) = l[n] := by
  unfold rd_T43; rw [Int.toNat_natCast, getD_lt _ h]

/-- A deal as the program's own type has it. -/
def toD (x : S37) : S43 := ⟨x.f0, x.f1, ⟨x.f2.f0, x.f2.f1, x.f2.f2⟩, x.f3⟩

theorem szDeal_eq (a0 a1 a2 a3 a4 : Int) (l : List Int) (a : Int) (hl : l.length ≤ maxLen) (h0 : 0 ≤ a) (h1 : a ≤ 1048576) : laws_szDeal.f a0 a1 a2 a3 a4 l a = some (if a < l.length then -1 else a - l.length) := by
  have hm : maxLen = 9223372036854775807 := rfl
  unfold laws_szDeal.f laws_szIntS.f
  rw [wrap_id (by omega) (by omega)]
  by_cases h : a < l.length
  · rw [if_pos (by omega), if_pos h]; rfl
  · rw [if_neg (by omega), if_neg h]; simp only [Option.bind_some]; rw [if_neg (by omega)]

theorem szDeals_loop (l : List S37) (hl : l.length ≤ 1048576) (hx : ∀ x ∈ l, x.f3.length ≤ maxLen) : ∀ n, n ≤ l.length → ∀ a : Int, 0 ≤ a → a ≤ 1048576 →
    ∃ s, Ev (fun k => laws_szDealS.l0 k l a (n : Int)) s ∧ (s < 0 ∨ ∀ x ∈ l.drop n, x.f3.length ≤ 1048576) := by
  refine down ?_ ?_
  · intro a h0 h1
    refine ⟨a, Ev.next (f := fun _ => some a) (Ev.now a) fun k => ?_, .inr (by simp)⟩
    simp only [laws_szDealS.l0]; rw [if_neg (by omega)]
  · intro n hn ih a h0 h1
    have hxn : l[n].f3.length ≤ maxLen := hx _ (List.getElem_mem hn)
    by_cases h : a < l[n].f3.length
    · refine ⟨-1, Ev.next (f := fun _ => some (-1)) (Ev.now _) fun k => ?_, .inl (by omega)⟩
      simp only [laws_szDealS.l0]
      rw [if_pos (by omega), if_pos (by omega), rdLD_nat l n hn, szDeal_eq _ _ _ _ _ _ _ hxn h0 h1, if_pos h]
      rfl
    · obtain ⟨s, hs, hd⟩ := ih (a - l[n].f3.length) (by omega) (by omega)
      refine ⟨s, Ev.next hs fun k => ?_, hd.imp id fun hd x hx => ?_⟩
      · simp only [laws_szDealS.l0]
        rw [if_pos (by omega), if_pos (by omega), rdLD_nat l n hn, szDeal_eq _ _ _ _ _ _ _ hxn h0 h1, if_neg h]
        simp only [Option.bind_some]
        rw [if_neg (by omega), wrap_succ (by omega)]
      · rw [List.drop_eq_getElem_cons hn] at hx
        rcases List.mem_cons.1 hx with rfl | hx
        · omega
        · exact hd x hx

theorem szDeals_ev (l : List S37) (hl : l.length ≤ maxLen) (hx : ∀ x ∈ l, x.f3.length ≤ maxLen) :
    ∃ s, Ev (fun k => laws_szDealS.f k l 1048576) s ∧ (s < 0 ∨ (l.length ≤ 1048576 ∧ ∀ x ∈ l, x.f3.length ≤ 1048576)) := by
  have hm : maxLen = 9223372036854775807 := rfl
  by_cases h : (1048576 : Int) < l.length
  · refine ⟨-1, Ev.now' fun k => ?_, .inl (by omega)⟩
    unfold laws_szDealS.f
    rw [wrap_id (by omega) (by omega), if_pos (by omega)]
  · obtain ⟨s, hs, hd⟩ := szDeals_loop l (by omega) hx 0 (by omega) (1048576 - l.length) (by omega) (by omega)
    refine ⟨s, Ev.congr (fun k => ?_) hs, hd.imp id fun hd => ⟨by omega, by simpa using hd⟩⟩
    unfold laws_szDealS.f
    rw [wrap_id (by omega) (by omega), if_neg (by omega)]
    rfl

theorem toDeal_ev (x : S37) (hx : x.f3.length ≤ 1048576) : Ev (fun k => laws_toDeal.f k x.f0 x.f1 x.f2.f0 x.f2.f1 x.f2.f2 x.f3) (x.f0, x.f1, x.f2.f0, x.f2.f1, x.f2.f2, x.f3) := by
  unfold laws_toDeal.f laws_toVec.f
  exact Ev.bind (g := fun k => laws_toIntS.f k x.f3) (f := fun _ t => some (x.f0, x.f1, x.f2.f0, x.f2.f1, x.f2.f2, t)) (toInts_ev _ hx) (Ev.now _)

theorem toDeals_loop (l : List S37) (hl : l.length ≤ 1048576) (hx : ∀ x ∈ l, x.f3.length ≤ 1048576) : ∀ n, n ≤ l.length → ∀ acc : List S43, acc.length = l.length → acc.take n = (l.take n).map toD →
    Ev (fun k => laws_toDealS.l0 k l acc (n : Int)) (l.map toD) := by
  refine down ?_ ?_
  · intro acc ha ht
    have e : acc = l.map toD := by rw [List.take_of_length_le (by omega), List.take_of_length_le (by omega)] at ht; exact ht
    subst e
    refine Ev.next (f := fun _ => some (l.map toD)) (Ev.now _) fun k => ?_
    simp only [laws_toDealS.l0]; rw [if_neg (by omega)]
  · intro n hn ih acc ha ht
    have hxn : l[n].f3.length ≤ 1048576 := hx _ (List.getElem_mem hn)
    refine Ev.next (Ev.bind (toDeal_ev l[n] hxn) (f := fun k bt => laws_toDealS.l0 k l (acc.set n (⟨bt.1, bt.2.1, (⟨bt.2.2.1, bt.2.2.2.1, bt.2.2.2.2.1⟩ : S41), bt.2.2.2.2.2⟩ : S43)) ((n + 1 : Nat) : Int)) (ih (acc.set n (toD l[n])) (by simpa using ha) ?_)) fun k => ?_
    · have hl' : ((l.take n).map toD).length = n := by rw [List.length_map, List.length_take]; omega
      have hr : (l.take (n + 1)).map toD = (l.take n).map toD ++ [toD l[n]] := by rw [List.take_add_one, List.getElem?_eq_getElem hn, List.map_append]; rfl
      rw [hr, List.take_set, List.take_add_one, ht, List.getElem?_eq_getElem (by omega)]
      simp only [Option.toList_some]
      rw [List.set_append_right _ _ (by omega), hl']
      simp
    · simp only [laws_toDealS.l0]
      rw [if_pos (by omega), if_pos (by omega), rdLD_nat l n hn]
      simp only [if_pos (show (n : Int) < (acc.length : Int) by omega), wrap_succ (show n < 4611686018427387904 by omega), Int.toNat_natCast]

theorem toDeals_ev (l : List S37) (hl : l.length ≤ 1048576) (hx : ∀ x ∈ l, x.f3.length ≤ 1048576) : Ev (fun k => laws_toDealS.f k l) (l.map toD) := by
  refine Ev.congr (fun k => ?_) (toDeals_loop l hl hx 0 (by omega) (List.replicate l.length z43) (by simp) (by simp))
  unfold laws_toDealS.f
  rw [if_pos (by omega), if_pos (by omega)]
  simp

theorem eqDeal_ev (x : S43) (hx : x.f3.length < 4611686018427387904) : Ev (fun k => laws_eqDeal.f k x.f0 x.f1 x.f2.f0 x.f2.f1 x.f2.f2 x.f3 x.f0 x.f1 x.f2.f0 x.f2.f1 x.f2.f2 x.f3) true := by
  unfold laws_eqDeal.f laws_eqVec.f
  simp only [if_true, Option.bind_some]
  exact Ev.bind (g := fun k => laws_eqIntS.f k x.f3 x.f3) (f := fun _ t => if t = true then some true else some false) (eqInts_ev _ hx) (Ev.now _)

theorem eqDeals_loop (l : List S43) (hl : l.length ≤ 1048576) (hx : ∀ x ∈ l, x.f3.length ≤ 1048576) : ∀ n, n ≤ l.length → Ev (fun k => laws_eqDealS.l0 k l l (n : Int)) true := by
  refine down ?_ ?_
  · refine Ev.next (f := fun _ => some true) (Ev.now true) fun k => ?_
    simp only [laws_eqDealS.l0]; rw [if_neg (by omega)]
  · intro n hn ih
    have hxn : l[n].f3.length ≤ 1048576 := hx _ (List.getElem_mem hn)
    refine Ev.next (Ev.bind (eqDeal_ev l[n] (by omega)) (f := fun k t => if t = true then laws_eqDealS.l0 k l l ((n + 1 : Nat) : Int) else some false) ih) fun k => ?_
    simp only [laws_eqDealS.l0]
    rw [if_pos (by omega), if_pos (by omega), if_pos (by omega), rdD_nat l n hn, wrap_succ (by omega)]

theorem eqDeals_ev (l : List S43) (hl : l.length ≤ 1048576) (hx : ∀ x ∈ l, x.f3.length ≤ 1048576) : Ev (fun k => laws_eqDealS.f k l l) true := by
  refine Ev.congr (fun k => ?_) (eqDeals_loop l hl hx 0 (by omega))
  unfold laws_eqDealS.f
  rw [if_pos rfl]; rfl

theorem toD_len {l : List S37} (hx : ∀ x ∈ l, x.f3.length ≤ 1048576) : ∀ x ∈ l.map toD, x.f3.length ≤ 1048576 := by
  intro x h
  obtain ⟨y, hy, rfl⟩ := List.mem_map.1 h
  exact hx y hy

theorem wrap_stride (b : Int) (h0 : 1 ≤ b) : wrap64 (Int.tdiv 2520 b) = 2520 / b := by
  have e : Int.tdiv 2520 b = 2520 / b := Int.tdiv_eq_ediv_of_nonneg (by omega)
  have h1 : 0 ≤ 2520 / b := Int.ediv_nonneg (by omega) (by omega)
  have h2 : 2520 / b ≤ 2520 := Int.ediv_le_self _ (by omega)
  rw [e, wrap_id (by omega) (by omega)]

/-- The stride of a weight. -/
def stride (b : Int) : Int := if 1 ≤ b ∧ b ≤ 10 then 2520 / b else 0

theorem sStride_eq (b : Int) : spec_Stride.f b = some (stride b) := by
  unfold spec_Stride.f stride
  by_cases h1 : b < 1
  · rw [if_pos h1, if_neg (by omega)]
  · rw [if_neg h1]
    by_cases h2 : b > 10
    · rw [if_pos h2, if_neg (by omega)]
    · rw [if_neg h2, if_neg (by omega), if_pos (by omega), wrap_stride b (by omega)]

theorem stride_pos {b : Int} (h : 1 ≤ b ∧ b ≤ 10) : 252 ≤ stride b ∧ stride b ≤ 2520 := by
  unfold stride
  rw [if_pos h]
  constructor
  · rw [Int.le_ediv_iff_mul_le (by omega)]; omega
  · exact Int.ediv_le_self _ (by omega)

theorem stride_zero (b : Int) : stride b = 0 ↔ ¬ (1 ≤ b ∧ b ≤ 10) := by
  by_cases h : 1 ≤ b ∧ b ≤ 10
  · have := stride_pos h
    constructor
    · intro h2; omega
    · intro h2; exact absurd h h2
  · unfold stride; simp [h]

theorem stride_bd (b : Int) : 0 ≤ stride b ∧ stride b ≤ 2520 := by
  by_cases h : 1 ≤ b ∧ b ≤ 10
  · have := stride_pos h; omega
  · have := (stride_zero b).2 h; omega

theorem within_eq (a b c : Int) : impl_within.f a b c = some (decide (b ≤ a ∧ a ≤ c)) := by
  unfold impl_within.f
  by_cases h : a ≥ b
  · rw [if_pos h]; congr 1; simp; omega
  · rw [if_neg h]; congr 1; simp; omega

theorem isWeight_eq (b : Int) : impl_isWeight.f b = some (decide (1 ≤ b ∧ b ≤ 10)) := by
  unfold impl_isWeight.f; rw [within_eq]; rfl

/-- Is each of the three from lo to hi? -/
def vFrom (a b c lo hi : Int) : Bool := decide ((lo ≤ a ∧ a ≤ hi) ∧ (lo ≤ b ∧ b ≤ hi) ∧ (lo ≤ c ∧ c ≤ hi))

theorem sAll_eq (a b c lo hi : Int) : spec_l13All.f a b c lo hi = some (vFrom a b c lo hi) := by
  unfold spec_l13All.f vFrom
  repeat' split
  all_goals (congr 1; first | exact dec_iff (by omega) | exact dec_false (by omega) | exact dec_true (by omega))

theorem iFrom_eq (a b c lo hi : Int) : impl_Vec_isFrom.f a b c lo hi = some (vFrom a b c lo hi) := by
  unfold impl_Vec_isFrom.f vFrom
  simp only [within_eq, Option.bind_some, decide_eq_true_eq]
  repeat' split
  all_goals (congr 1; first | exact dec_iff (by omega) | exact dec_false (by omega) | exact dec_true (by omega))

theorem sCharge_eq (a b c : Int) : spec_ChargeOk.f a b c = some (vFrom a b c 1 2000) := by
  unfold spec_ChargeOk.f; rw [sAll_eq]; rfl

theorem iCharge_eq (a b c : Int) : impl_ChargeOk.f a b c = some (vFrom a b c 1 2000) := by
  unfold impl_ChargeOk.f; rw [iFrom_eq]; rfl

theorem sIn_loop (l : List Int) (x : Int) (hl : l.length < 4611686018427387904) : ∀ n, n ≤ l.length → Ev (fun k => spec_l19In.l0 k l x (n : Int)) (decide (x ∈ l.drop n)) := by
  refine down ?_ ?_
  · refine Ev.next (f := fun _ => some _) (Ev.now _) fun k => ?_
    simp only [spec_l19In.l0]; rw [if_neg (by omega)]; simp
  · intro n hn ih
    have hd := List.drop_eq_getElem_cons hn
    by_cases h : l[n] = x
    · refine Ev.next (f := fun _ => some _) (Ev.now _) fun k => ?_
      simp only [spec_l19In.l0]
      rw [if_pos (by omega), if_pos (by omega), rd_nat, getD_lt 0 hn, if_pos h]; exact congrArg some (dec_true ((mem_drop hn).2 (.inl h.symm)))
    · refine Ev.next (Ev.to ih ?_) fun k => ?_
      · exact dec_iff (by rw [mem_drop hn]; simp only [Ne.symm h, false_or])
      · simp only [spec_l19In.l0]
        rw [if_pos (by omega), if_pos (by omega), rd_nat, getD_lt 0 hn, if_neg h, wrap_succ (by omega)]

theorem sIn_ev (l : List Int) (x : Int) (hl : l.length < 4611686018427387904) : Ev (fun k => spec_l19In.f k l x) (decide (x ∈ l)) := by
  have := sIn_loop l x hl 0 (by omega)
  simpa [spec_l19In.f] using this

theorem idx_loop (l : List Int) (x : Int) (hl : l.length < 4611686018427387904) : ∀ n, n ≤ l.length → ∃ r : Int, Ev (fun k => slices_Index_int_int.l0 k l x (l.length : Int) (n : Int)) r ∧ (0 ≤ r ↔ x ∈ l.drop n) := by
  refine down ?_ ?_
  · refine ⟨-1, Ev.next (f := fun _ => some _) (Ev.now _) fun k => ?_, by simp⟩
    simp only [slices_Index_int_int.l0]; rw [if_neg (by omega)]
  · intro n hn ih
    have hd := List.drop_eq_getElem_cons hn
    by_cases h : x = l[n]
    · refine ⟨n, Ev.next (f := fun _ => some _) (Ev.now _) fun k => ?_, ⟨fun _ => (mem_drop hn).2 (.inl h), fun _ => by omega⟩⟩
      simp only [slices_Index_int_int.l0]
      rw [if_pos (by omega), if_pos (by omega), if_pos (by omega), rd_nat, getD_lt 0 hn, if_pos h]
    · obtain ⟨r, hr, hm⟩ := ih
      refine ⟨r, Ev.next hr fun k => ?_, by rw [hm, mem_drop hn]; simp only [h, false_or]⟩
      simp only [slices_Index_int_int.l0]
      rw [if_pos (by omega), if_pos (by omega), if_pos (by omega), rd_nat, getD_lt 0 hn, if_neg h, wrap_succ (by omega)]

theorem iContains_ev (l : List Int) (x : Int) (hl : l.length < 4611686018427387904) : Ev (fun k => slices_Contains_int_int.f k l x) (decide (x ∈ l)) := by
  obtain ⟨r, hr, hm⟩ := idx_loop l x hl 0 (by omega)
  unfold slices_Contains_int_int.f slices_Index_int_int.f
  refine Ev.to (Ev.bind hr (f := fun _ t => some (decide (t ≥ 0))) (Ev.now _)) ?_
  rw [decide_eq_decide]
  simpa using hm

/-- Is the id at place n of Busy right, and above the one ahead of it? -/
def okAt (l : List Int) (n : Nat) : Bool := decide (0 ≤ l.getD n 0 ∧ l.getD n 0 ≤ 9999) && (decide (n = 0) || decide (l.getD (n - 1) 0 < l.getD n 0))
/-- Are all from n on, d of them? -/
def busyFrom (l : List Int) : Nat → Nat → Bool
  | 0, _ => true
  | d + 1, n => okAt l n && busyFrom l d (n + 1)
/-- Is a deal right? -/
def dealOkM (x : S43) : Bool := vFrom x.f2.f0 x.f2.f1 x.f2.f2 1 2000 && decide (1 ≤ x.f1 ∧ x.f1 ≤ 10) && decide (x.f0 ∈ x.f3) && busyFrom x.f3 x.f3.length 0
def dealsOkM (l : List S43) : Bool := decide (l.length ≤ 200) && l.all dealOkM

theorem okAt_no {l : List Int} {n : Nat} (h : ¬ (0 ≤ l.getD n 0 ∧ l.getD n 0 ≤ 9999)) : okAt l n = false := by
  unfold okAt; rw [decide_eq_false h]; rfl
theorem okAt_no2 {l : List Int} {n : Nat} (h0 : ¬ n = 0) (h : ¬ l.getD (n - 1) 0 < l.getD n 0) : okAt l n = false := by
  unfold okAt; rw [decide_eq_false h0, decide_eq_false h]; simp
theorem okAt_yes {l : List Int} {n : Nat} (h : 0 ≤ l.getD n 0 ∧ l.getD n 0 ≤ 9999) (h0 : n = 0 ∨ l.getD (n - 1) 0 < l.getD n 0) : okAt l n = true := by
  unfold okAt; rw [decide_eq_true h]
  rcases h0 with h0 | h0
  · rw [decide_eq_true h0]; rfl
  · rw [decide_eq_true h0]; simp

theorem busy_ge {l : List Int} : ∀ d n, n + d = l.length → busyFrom l d n = true → (n = 0 ∨ (n : Int) - 1 ≤ l.getD (n - 1) 0) → ∀ m, n ≤ m → m < l.length → (m : Int) ≤ l.getD m 0 ∧ l.getD m 0 ≤ 9999 := by
  intro d
  induction d with
  | zero => intro n h1 _ _ m h2 h3; omega
  | succ d ih =>
    intro n h1 h2 h0 m h3 h4
    simp only [busyFrom, okAt, Bool.and_eq_true, decide_eq_true_eq, Bool.or_eq_true] at h2
    obtain ⟨⟨⟨h5, h6⟩, h7⟩, h8⟩ := h2
    have hn : (n : Int) ≤ l.getD n 0 := by
      rcases h0 with h0 | h0
      · subst h0; simpa using h5
      · rcases h7 with h7 | h7
        · subst h7; simpa using h5
        · omega
    by_cases he : m = n
    · subst he; exact ⟨hn, h6⟩
    · exact ih (n + 1) (by omega) h8 (.inr (by simpa using hn)) m (by omega) h4

theorem busy_len {l : List Int} (h : busyFrom l l.length 0 = true) : l.length ≤ 10000 := by
  by_cases hl : l.length = 0
  · omega
  · have := busy_ge l.length 0 (by omega) h (.inl rfl) (l.length - 1) (by omega) (by omega)
    omega

theorem dealOk_spec (x : S43) : (vFrom x.f2.f0 x.f2.f1 x.f2.f2 1 2000 && decide (1 ≤ x.f1 ∧ x.f1 ≤ 10) && decide (x.f3.length ≤ 10000) && decide (x.f0 ∈ x.f3) && busyFrom x.f3 x.f3.length 0) = dealOkM x := by
  unfold dealOkM
  by_cases h : busyFrom x.f3 x.f3.length 0 = true
  · have := busy_len h
    simp [h, this]
  · simp [h]

theorem sBusy_loop (L : List S43) (m : Int) (a0 a1 a2 a3 a4 : Int) (l : List Int) (hl : l.length ≤ 1048576) (r : Bool) (hr : Ev (fun k => spec_DealsOk.l0 k L (wrap64 (m + 1))) r) : ∀ d n, n + d = l.length →
    Ev (fun k => spec_DealsOk.l1 k L m (n : Int) a0 a1 a2 a3 a4 l) (busyFrom l d n && r) := by
  intro d
  induction d with
  | zero =>
    intro n hn
    refine Ev.next (Ev.to hr (by simp [busyFrom])) fun k => ?_
    simp only [spec_DealsOk.l1]; rw [if_neg (by omega)]
  | succ d ih =>
    intro n hn
    have hlt : n < l.length := by omega
    have hnext := ih (n + 1) (by omega)
    by_cases h1 : l.getD n 0 < 0
    · refine Ev.to (Ev.next (f := fun _ => some false) (Ev.now _) fun k => ?_) (by simp only [busyFrom, okAt_no (show ¬ (0 ≤ l.getD n 0 ∧ l.getD n 0 ≤ 9999) by omega), Bool.false_and])
      simp only [spec_DealsOk.l1]; rw [if_pos (by omega), if_pos (by omega), rd_nat, if_pos h1]
    by_cases h2 : l.getD n 0 > 9999
    · refine Ev.to (Ev.next (f := fun _ => some false) (Ev.now _) fun k => ?_) (by simp only [busyFrom, okAt_no (show ¬ (0 ≤ l.getD n 0 ∧ l.getD n 0 ≤ 9999) by omega), Bool.false_and])
      simp only [spec_DealsOk.l1]; rw [if_pos (by omega), if_pos (by omega), rd_nat, if_neg h1, if_pos h2]
    by_cases h0 : n = 0
    · subst h0
      have ho : okAt l 0 = true := okAt_yes (by omega) (.inl rfl)
      refine Ev.to (Ev.next hnext fun k => ?_) (by simp [busyFrom, ho])
      simp only [spec_DealsOk.l1]; rw [if_pos (by omega), if_pos (by omega), rd_nat, if_neg h1, if_neg h2, if_neg (by omega), wrap_succ (by omega)]
    · by_cases h3 : l.getD (n - 1) 0 ≥ l.getD n 0
      · refine Ev.to (Ev.next (f := fun _ => some false) (Ev.now _) fun k => ?_) (by simp only [busyFrom, okAt_no2 h0 (show ¬ l.getD (n - 1) 0 < l.getD n 0 by omega), Bool.false_and])
        simp only [spec_DealsOk.l1]; rw [if_pos (by omega), if_pos (by omega), rd_nat, if_neg h1, if_neg h2, if_pos (by omega), wrap_pred (by omega) (by omega), if_pos (by omega), if_pos (by omega), rd_nat, if_pos h3]
      · have ho : okAt l n = true := okAt_yes (by omega) (.inr (by omega))
        refine Ev.to (Ev.next hnext fun k => ?_) (by simp [busyFrom, ho])
        simp only [spec_DealsOk.l1]; rw [if_pos (by omega), if_pos (by omega), rd_nat, if_neg h1, if_neg h2, if_pos (by omega), wrap_pred (by omega) (by omega), if_pos (by omega), if_pos (by omega), rd_nat, if_neg h3, wrap_succ (by omega)]

theorem sDeals_loop (L : List S43) (hl : L.length ≤ 1048576) (hx : ∀ x ∈ L, x.f3.length ≤ 1048576) : ∀ n, n ≤ L.length → Ev (fun k => spec_DealsOk.l0 k L (n : Int)) ((L.drop n).all dealOkM) := by
  refine down ?_ ?_
  · refine Ev.next (f := fun _ => some _) (Ev.now _) fun k => ?_
    simp only [spec_DealsOk.l0]; rw [if_neg (by omega)]; simp
  · intro n hn ih
    have hxn := hx _ (List.getElem_mem hn)
    rw [all_drop hn, ← dealOk_spec]
    rw [show ((n + 1 : Nat) : Int) = wrap64 ((n : Int) + 1) from (wrap_succ (by omega)).symm] at ih
    have hb := sBusy_loop L (n : Int) (L[n].f0) (L[n].f1) (L[n].f2.f0) (L[n].f2.f1) (L[n].f2.f2) L[n].f3 hxn _ ih L[n].f3.length 0 (by omega)
    have hj : Ev (fun k => spec_DealsOk.j1 k L (n : Int) true (L[n].f0) (L[n].f1) (L[n].f2.f0) (L[n].f2.f1) (L[n].f2.f2) L[n].f3) false := Ev.next (f := fun _ => some false) (Ev.now _) fun k => by simp [spec_DealsOk.j1]
    have hj2 : ∀ t : Bool, Ev (fun k => spec_DealsOk.j1 k L (n : Int) (!t) (L[n].f0) (L[n].f1) (L[n].f2.f0) (L[n].f2.f1) (L[n].f2.f2) L[n].f3) (t && (busyFrom L[n].f3 L[n].f3.length 0 && (L.drop (n + 1)).all dealOkM)) := by
      intro t
      cases t with
      | false => simpa using hj
      | true => exact Ev.to (Ev.next hb fun k => by simp [spec_DealsOk.j1]) (by simp)
    cases hc : vFrom L[n].f2.f0 L[n].f2.f1 L[n].f2.f2 1 2000 with
    | false =>
      refine Ev.to (Ev.next hj fun k => ?_) (by simp)
      simp only [spec_DealsOk.l0]; rw [if_pos (by omega), if_pos (by omega), rdD_nat L n hn, sCharge_eq, hc]; simp
    | true =>
      by_cases hw : 1 ≤ L[n].f1 ∧ L[n].f1 ≤ 10
      · have hs : ¬ stride L[n].f1 = 0 := fun h => (stride_zero _).1 h hw
        by_cases h4 : (L[n].f3.length : Int) > 10000
        · refine Ev.to (Ev.next hj fun k => ?_) (by simp; intro; omega)
          simp only [spec_DealsOk.l0]; rw [if_pos (by omega), if_pos (by omega), rdD_nat L n hn, sCharge_eq, hc, sStride_eq]; simp only [Option.bind_some, if_true]; rw [if_neg hs, if_pos h4]
        · have h4' : L[n].f3.length ≤ 10000 := by omega
          refine Ev.to (Ev.next (Ev.bind (sIn_ev L[n].f3 L[n].f0 (by omega)) (f := fun k t => spec_DealsOk.j1 k L (n : Int) (!t) (L[n].f0) (L[n].f1) (L[n].f2.f0) (L[n].f2.f1) (L[n].f2.f2) L[n].f3) (hj2 _)) fun k => ?_) (by simp [hw, h4', Bool.and_assoc])
          simp only [spec_DealsOk.l0]; rw [if_pos (by omega), if_pos (by omega), rdD_nat L n hn, sCharge_eq, hc, sStride_eq]; simp only [Option.bind_some, if_true]; rw [if_neg hs, if_neg h4]
      · have hs : stride L[n].f1 = 0 := (stride_zero _).2 hw
        refine Ev.to (Ev.next hj fun k => ?_) (by simp [hw])
        simp only [spec_DealsOk.l0]; rw [if_pos (by omega), if_pos (by omega), rdD_nat L n hn, sCharge_eq, hc, sStride_eq]; simp only [Option.bind_some, if_true]; rw [if_pos hs]

theorem sDeals_ev (L : List S43) (hl : L.length ≤ 1048576) (hx : ∀ x ∈ L, x.f3.length ≤ 1048576) : Ev (fun k => spec_DealsOk.f k L) (dealsOkM L) := by
  unfold spec_DealsOk.f dealsOkM
  by_cases h : (L.length : Int) > 200
  · refine Ev.to (Ev.now' fun k => if_pos h) ?_
    have : ¬ L.length ≤ 200 := by omega
    simp [this]
  · refine Ev.to (Ev.congr (fun k => if_neg h) (sDeals_loop L hl hx 0 (by omega))) ?_
    have : L.length ≤ 200 := by omega
    simp [this]

theorem iBusy_loop (l : List Int) (a0 a1 a2 a3 a4 : Int) (hl : l.length ≤ 1048576) (r : Bool)
    (hr : Ev (fun k => (impl_ChargeOk.f a2 a3 a4).bind fun t198 => (if t198 = true then ((impl_isWeight.f a1).bind fun t199 => (if t199 = true then ((slices_Contains_int_int.f k l a0).bind fun t200 => (some t200)) else (some false))) else (some false))) r) : ∀ d n, n + d = l.length →
    Ev (fun k => impl_dealOk.l0 k l (l.length : Int) (n : Int) a0 a1 a2 a3 a4 l) (busyFrom l d n && r) := by
  intro d
  induction d with
  | zero =>
    intro n hn
    refine Ev.next (Ev.to hr (by simp [busyFrom])) fun k => ?_
    simp only [impl_dealOk.l0]; rw [if_neg (by omega)]
  | succ d ih =>
    intro n hn
    have hlt : n < l.length := by omega
    have hnext := ih (n + 1) (by omega)
    have hfl : impl_isFlow.f (l.getD n 0) = some (decide (0 ≤ l.getD n 0 ∧ l.getD n 0 ≤ 9999)) := by unfold impl_isFlow.f; rw [within_eq]; rfl
    by_cases h1 : 0 ≤ l.getD n 0 ∧ l.getD n 0 ≤ 9999
    · by_cases h0 : n = 0
      · subst h0
        have ho : okAt l 0 = true := okAt_yes (by omega) (.inl rfl)
        refine Ev.to (Ev.next hnext fun k => ?_) (by simp [busyFrom, ho])
        simp only [impl_dealOk.l0]; rw [if_pos (by omega), if_pos (by omega), if_pos (by omega), rd_nat, hfl, decide_eq_true h1]; simp only [Option.bind_some, if_true]; rw [if_neg (by omega), wrap_succ (by omega)]
      · by_cases h3 : l.getD (n - 1) 0 ≥ l.getD n 0
        · refine Ev.to (Ev.next (f := fun _ => some false) (Ev.now _) fun k => ?_) (by simp only [busyFrom, okAt_no2 h0 (show ¬ l.getD (n - 1) 0 < l.getD n 0 by omega), Bool.false_and])
          simp only [impl_dealOk.l0]; rw [if_pos (by omega), if_pos (by omega), if_pos (by omega), rd_nat, hfl, decide_eq_true h1]; simp only [Option.bind_some, if_true]; rw [if_pos (by omega), wrap_pred (by omega) (by omega), if_pos (by omega), if_pos (by omega), rd_nat, if_pos h3]
        · have ho : okAt l n = true := okAt_yes (by omega) (.inr (by omega))
          refine Ev.to (Ev.next hnext fun k => ?_) (by simp [busyFrom, ho])
          simp only [impl_dealOk.l0]; rw [if_pos (by omega), if_pos (by omega), if_pos (by omega), rd_nat, hfl, decide_eq_true h1]; simp only [Option.bind_some, if_true]; rw [if_pos (by omega), wrap_pred (by omega) (by omega), if_pos (by omega), if_pos (by omega), rd_nat, if_neg h3, wrap_succ (by omega)]
    · refine Ev.to (Ev.next (f := fun _ => some false) (Ev.now _) fun k => ?_) (by simp only [busyFrom, okAt_no h1, Bool.false_and])
      simp only [impl_dealOk.l0]; rw [if_pos (by omega), if_pos (by omega), if_pos (by omega), rd_nat, hfl, decide_eq_false h1]; simp

theorem iDeal_ev (x : S43) (hx : x.f3.length ≤ 1048576) : Ev (fun k => impl_dealOk.f k x.f0 x.f1 x.f2.f0 x.f2.f1 x.f2.f2 x.f3) (dealOkM x) := by
  unfold impl_dealOk.f
  refine Ev.to (iBusy_loop x.f3 x.f0 x.f1 x.f2.f0 x.f2.f1 x.f2.f2 hx (vFrom x.f2.f0 x.f2.f1 x.f2.f2 1 2000 && decide (1 ≤ x.f1 ∧ x.f1 ≤ 10) && decide (x.f0 ∈ x.f3)) ?_ x.f3.length 0 (by omega)) (by unfold dealOkM; rw [Bool.and_comm])
  simp only [iCharge_eq, isWeight_eq, Option.bind_some]
  cases vFrom x.f2.f0 x.f2.f1 x.f2.f2 1 2000 with
  | false => exact Ev.now' fun k => by simp
  | true =>
    by_cases hw : 1 ≤ x.f1 ∧ x.f1 ≤ 10
    · simp only [decide_eq_true hw, if_true, Bool.and_self, Bool.true_and]
      exact Ev.bind (iContains_ev x.f3 x.f0 (by omega)) (f := fun _ t => some t) (Ev.now _)
    · exact Ev.now' fun k => by simp [hw]

/-- One number of rounds for all elements of a list. -/
theorem Ev.all {α β : Type} {P : Nat → α → Option β} {q : α → β} : ∀ l : List α, (∀ x ∈ l, Ev (fun k => P k x) (q x)) → ∃ K, ∀ k, K ≤ k → ∀ x ∈ l, P k x = some (q x)
  | [], _ => ⟨0, fun _ _ x hx => by cases hx⟩
  | y :: l, h => by
    obtain ⟨K1, h1⟩ := h y (by simp)
    obtain ⟨K2, h2⟩ := Ev.all l (fun x hx => h x (by simp [hx]))
    refine ⟨max K1 K2, fun k hk x hx => ?_⟩
    rcases List.mem_cons.1 hx with rfl | hx
    · exact h1 k (by omega)
    · exact h2 k (by omega) x hx

theorem iIndexD (L : List S43) (hl : L.length ≤ 1048576) (p : Int → Int → Int → Int → Int → List Int → Option Bool) (q : S43 → Bool)
    (hp : ∀ x ∈ L, p x.f0 x.f1 x.f2.f0 x.f2.f1 x.f2.f2 x.f3 = some (q x)) : ∀ n, n ≤ L.length → ∃ r : Int, (∀ k, L.length - n < k → slices_IndexFunc_impl_Deal_impl_Deal.l0 k L p (L.length : Int) (n : Int) = some r) ∧ (0 ≤ r ↔ (L.drop n).any q = true) := by
  refine down ?_ ?_
  · refine ⟨-1, fun k hk => ?_, by simp⟩
    obtain ⟨k, rfl⟩ : ∃ m, k = m + 1 := ⟨k - 1, by omega⟩
    simp only [slices_IndexFunc_impl_Deal_impl_Deal.l0]; rw [if_neg (by omega)]
  · intro n hn ih
    have hd := List.drop_eq_getElem_cons hn
    have hpn := hp _ (List.getElem_mem hn)
    cases hq : q L[n] with
    | true =>
      refine ⟨n, fun k hk => ?_, by rw [any_drop hn, hq]; simp⟩
      obtain ⟨k, rfl⟩ : ∃ m, k = m + 1 := ⟨k - 1, by omega⟩
      simp only [slices_IndexFunc_impl_Deal_impl_Deal.l0]
      rw [if_pos (by omega), if_pos (by omega), if_pos (by omega), rdD_nat L n hn, hpn, hq]; simp
    | false =>
      obtain ⟨r, hr, hm⟩ := ih
      refine ⟨r, fun k hk => ?_, by rw [hm, any_drop hn, hq]; simp⟩
      obtain ⟨k, rfl⟩ : ∃ m, k = m + 1 := ⟨k - 1, by omega⟩
      simp only [slices_IndexFunc_impl_Deal_impl_Deal.l0]
      rw [if_pos (by omega), if_pos (by omega), if_pos (by omega), rdD_nat L n hn, hpn, hq]
      simp only [Option.bind_some, if_neg (show ¬ (false = true) by decide)]
      rw [wrap_succ (by omega)]
      exact hr k (by omega)

theorem iContainsD (L : List S43) (hl : L.length ≤ 1048576) (p : Nat → Int → Int → Int → Int → Int → List Int → Option Bool) (q : S43 → Bool)
    (hp : ∀ x ∈ L, Ev (fun k => p k x.f0 x.f1 x.f2.f0 x.f2.f1 x.f2.f2 x.f3) (q x)) : Ev (fun k => slices_ContainsFunc_impl_Deal_impl_Deal.f k L (p k)) (L.any q) := by
  obtain ⟨K, hK⟩ := Ev.all (P := fun k (x : S43) => p k x.f0 x.f1 x.f2.f0 x.f2.f1 x.f2.f2 x.f3) L hp
  refine ⟨max K (L.length + 1), fun k hk => ?_⟩
  obtain ⟨r, hr, hm⟩ := iIndexD L hl (p k) q (hK k (by omega)) 0 (by omega)
  unfold slices_ContainsFunc_impl_Deal_impl_Deal.f slices_IndexFunc_impl_Deal_impl_Deal.f
  show (slices_IndexFunc_impl_Deal_impl_Deal.l0 k L (p k) (L.length : Int) ((0 : Nat) : Int)).bind (fun t => some (decide (t ≥ 0))) = some (L.any q)
  rw [hr k (by omega), Option.bind_some]
  congr 1
  rw [Bool.eq_iff_iff, decide_eq_true_eq]
  simpa using hm

theorem iDeals_ev (L : List S43) (hl : L.length ≤ 1048576) (hx : ∀ x ∈ L, x.f3.length ≤ 1048576) : Ev (fun k => impl_DealsOk.f k L) (dealsOkM L) := by
  unfold impl_DealsOk.f dealsOkM
  by_cases h : (L.length : Int) ≤ 200
  · have h' : L.length ≤ 200 := by omega
    simp only [if_pos h]
    refine Ev.to (Ev.bind (iContainsD L hl (fun k z0 z1 z2 z3 z4 z5 => impl_DealsOk_1.f k z0 z1 z2 z3 z4 z5) (fun x => !dealOkM x) ?_) (f := fun _ t => some (!t)) (Ev.now _)) ?_
    · intro x hxm
      unfold impl_DealsOk_1.f
      exact Ev.bind (iDeal_ev x (hx x hxm)) (f := fun _ t => some (!t)) (Ev.now _)
    · simp only [h', decide_true, Bool.true_and]
      rw [Bool.eq_iff_iff]
      simp
  · refine Ev.to (Ev.now' fun k => if_neg h) ?_
    have : ¬ L.length ≤ 200 := by omega
    simp [this]

/-- The deals of a member. -/
def mineM (L : List S43) (id : Int) : List S43 := L.filter (fun x => decide (x.f0 = id))
/-- The deals of a span. -/
def cutM (L : List S43) (a b : Int) : List S43 := (L.take b.toNat).drop a.toNat
/-- Are the log and the span right? -/
def spanM (L : List S43) (a b : Int) : Bool := decide (0 ≤ a ∧ a ≤ b ∧ b ≤ L.length) && dealsOkM L

theorem dealsOk_len {L : List S43} (h : dealsOkM L = true) : L.length ≤ 200 := by
  unfold dealsOkM at h; simp at h; exact h.1

theorem iSpan_ev (L : List S43) (a b : Int) (hl : L.length ≤ 1048576) (hx : ∀ x ∈ L, x.f3.length ≤ 1048576) : Ev (fun k => impl_span.f k L a b) (if spanM L a b = true then (cutM L a b, true) else ([], false)) := by
  unfold impl_span.f
  refine Ev.bind (iDeals_ev L hl hx) (Ev.now' fun k => ?_)
  unfold spanM cutM
  cases hd : dealsOkM L with
  | false => simp
  | true =>
    by_cases h1 : a < 0
    · rw [if_pos rfl, if_pos h1]; have : ¬ (0 ≤ a ∧ a ≤ b ∧ b ≤ L.length) := by omega
      simp [this]
    · by_cases h2 : a > b
      · rw [if_pos rfl, if_neg h1, if_pos h2]; have : ¬ (0 ≤ a ∧ a ≤ b ∧ b ≤ L.length) := by omega
        simp [this]
      · by_cases h3 : b > L.length
        · rw [if_pos rfl, if_neg h1, if_neg h2, if_pos h3]; have : ¬ (0 ≤ a ∧ a ≤ b ∧ b ≤ L.length) := by omega
          simp [this]
        · rw [if_pos rfl, if_neg h1, if_neg h2, if_neg h3, if_pos (by omega), if_pos (by omega), if_pos (by omega)]
          have : 0 ≤ a ∧ a ≤ b ∧ b ≤ L.length := by omega
          simp [this]

theorem sSpan_ev (L : List S43) (a b : Int) (hl : L.length ≤ 1048576) (hx : ∀ x ∈ L, x.f3.length ≤ 1048576) : Ev (fun k => spec_l19Span.f k L a b) (spanM L a b) := by
  unfold spec_l19Span.f spanM
  by_cases h : 0 ≤ a ∧ a ≤ b ∧ b ≤ L.length
  · simp only [if_pos (show a ≥ 0 by omega), if_pos (show a ≤ b by omega), if_pos (show b ≤ (L.length : Int) by omega), decide_eq_true h, Bool.true_and]
    exact Ev.bind (sDeals_ev L hl hx) (f := fun _ t => some t) (Ev.now _)
  · refine Ev.now' fun k => ?_
    rw [decide_eq_false h, Bool.false_and]
    by_cases h1 : a ≥ 0
    · rw [if_pos h1]
      by_cases h2 : a ≤ b
      · rw [if_pos h2, if_neg (by omega)]
      · rw [if_neg h2]
    · rw [if_neg h1]

theorem cut_len (L : List S43) (a b : Int) : (cutM L a b).length ≤ L.length := by
  unfold cutM; rw [List.length_drop, List.length_take]; omega

theorem mine_len (L : List S43) (id : Int) : (mineM L id).length ≤ L.length := List.length_filter_le _ _

theorem sMine_loop (L : List S43) (id : Int) (b : Nat) (hb : b ≤ L.length) (hl : L.length ≤ 1048576) : ∀ n, n ≤ b → ∀ acc : List S43, acc.length ≤ n → Ev (fun k => spec_l19Mine.l0 k L id (b : Int) acc (n : Int)) (acc ++ mineM ((L.take b).drop n) id) := by
  refine down ?_ ?_
  · intro acc ha
    refine Ev.next (f := fun _ => some _) (Ev.now _) fun k => ?_
    simp only [spec_l19Mine.l0]; rw [if_neg (by omega)]; simp [mineM, List.drop_eq_nil_of_le]
  · intro n hn ih acc ha
    have hn' : n < L.length := by omega
    have hd : (L.take b).drop n = L[n] :: (L.take b).drop (n + 1) := by
      rw [List.drop_eq_getElem_cons (by rw [List.length_take]; omega), List.getElem_take]
    by_cases h : L[n].f0 = id
    · refine Ev.to (Ev.next (ih (acc ++ [L[n]]) (by simp; omega)) fun k => ?_) (by rw [hd]; simp [mineM, h])
      simp only [spec_l19Mine.l0]
      rw [if_pos (by omega), if_pos (by omega), if_pos (by omega), rdD_nat L n hn', if_pos h, if_pos (by omega), wrap_succ (by omega)]
    · refine Ev.to (Ev.next (ih acc (by omega)) fun k => ?_) (by rw [hd]; simp [mineM, h])
      simp only [spec_l19Mine.l0]
      rw [if_pos (by omega), if_pos (by omega), if_pos (by omega), rdD_nat L n hn', if_neg h, wrap_succ (by omega)]

theorem sMine_ev (L : List S43) (id a b : Int) (h0 : 0 ≤ a) (h1 : a ≤ b) (h2 : b ≤ L.length) (hl : L.length ≤ 1048576) : Ev (fun k => spec_l19Mine.f k L id a b) (mineM (cutM L a b) id) := by
  have := sMine_loop L id b.toNat (by omega) hl a.toNat (by omega) [] (by simp)
  rw [show ((b.toNat : Nat) : Int) = b by omega, show ((a.toNat : Nat) : Int) = a by omega] at this
  simpa [spec_l19Mine.f, cutM] using this


theorem iMine_loop (L : List S43) (id : Int) (hl : L.length ≤ 1048576) : ∀ n, n ≤ L.length → ∀ acc : List S43, acc.length ≤ n → Ev (fun k => impl_dealsOf.l0 k id acc L (L.length : Int) (n : Int)) (acc ++ mineM (L.drop n) id) := by
  refine down ?_ ?_
  · intro acc ha
    refine Ev.next (f := fun _ => some _) (Ev.now _) fun k => ?_
    simp only [impl_dealsOf.l0]; rw [if_neg (by omega)]; simp [mineM]
  · intro n hn ih acc ha
    have hd : mineM (L.drop n) id = mineM (L[n] :: L.drop (n + 1)) id := by rw [← List.drop_eq_getElem_cons hn]
    by_cases h : L[n].f0 = id
    · refine Ev.to (Ev.next (ih (acc ++ [L[n]]) (by simp; omega)) fun k => ?_) (by rw [hd]; unfold mineM; rw [List.filter_cons]; simp only [h, decide_true, decide_false, if_true, List.append_assoc, List.singleton_append, if_neg (show ¬ (false = true) by decide)])
      simp only [impl_dealsOf.l0]
      rw [if_pos (by omega), if_pos (by omega), if_pos (by omega), rdD_nat L n hn, if_pos h, if_pos (by omega), wrap_succ (by omega)]
    · refine Ev.to (Ev.next (ih acc (by omega)) fun k => ?_) (by rw [hd]; unfold mineM; rw [List.filter_cons]; simp only [h, decide_true, decide_false, if_true, List.append_assoc, List.singleton_append, if_neg (show ¬ (false = true) by decide)])
      simp only [impl_dealsOf.l0]
      rw [if_pos (by omega), if_pos (by omega), if_pos (by omega), rdD_nat L n hn, if_neg h, wrap_succ (by omega)]

theorem iMine_ev (L : List S43) (id : Int) (hl : L.length ≤ 1048576) : Ev (fun k => impl_dealsOf.f k L id) (mineM L id) := by
  have := iMine_loop L id hl 0 (by omega) [] (by simp)
  simpa [impl_dealsOf.f] using this


/-- Is this resource, of every deal, the one with the greatest part? -/
def mainX (r : Int) (x : S43) : Bool := decide (ar3 x.f2.f0 x.f2.f1 x.f2.f2 r = mx (mx x.f2.f0 x.f2.f1) x.f2.f2)
def mainAt (L : List S43) (r : Int) : Bool := decide (0 < L.length) && L.all (mainX r)
def mainsFrom (L : List S43) (r : Nat) : List Int := (([0, 1, 2] : List Int).drop r).filter (mainAt L)
def mainsM (L : List S43) : List Int := mainsFrom L 0

theorem mains_cons (L : List S43) (r : Nat) (hr : r < 3) : mainsFrom L r = if mainAt L (r : Int) = true then (r : Int) :: mainsFrom L (r + 1) else mainsFrom L (r + 1) := by
  unfold mainsFrom
  rcases (show r = 0 ∨ r = 1 ∨ r = 2 by omega) with rfl | rfl | rfl
  · exact List.filter_cons
  · exact List.filter_cons
  · exact List.filter_cons

theorem mains_mem {L : List S43} {p : Int} (h : p ∈ mainsM L) : 0 < L.length ∧ 0 ≤ p ∧ p < 3 := by
  unfold mainsM mainsFrom at h
  rw [List.mem_filter] at h
  obtain ⟨h1, h2⟩ := h
  unfold mainAt at h2
  simp only [Bool.and_eq_true, decide_eq_true_eq] at h2
  refine ⟨h2.1, ?_⟩
  simp at h1
  omega

theorem mains_len (L : List S43) : (mainsM L).length ≤ 3 := List.length_filter_le _ _

theorem rd_three (a b c r : Int) (h0 : 0 ≤ r) (h1 : r < 3) : rd [a, b, c] r = ar3 a b c r := by
  rcases (show r = 0 ∨ r = 1 ∨ r = 2 by omega) with rfl | rfl | rfl <;> rfl

theorem sMains_in (L : List S43) (hl : L.length ≤ 1048576) (r : Nat) (hr : r < 3) (acc : List Int) (ha : acc.length ≤ r) (res : List Int)
    (h1 : Ev (fun k => spec_l19Mains.l0 k L (acc ++ [(r : Int)]) ((r + 1 : Nat) : Int)) (acc ++ [(r : Int)] ++ res)) (h2 : Ev (fun k => spec_l19Mains.l0 k L acc ((r + 1 : Nat) : Int)) (acc ++ res)) : ∀ n, n ≤ L.length → ∀ b : Bool,
    Ev (fun k => spec_l19Mains.l1 k L acc (r : Int) b (n : Int)) (acc ++ (if (b && (L.drop n).all (mainX r)) = true then (r : Int) :: res else res)) := by
  refine down ?_ ?_
  · intro b
    cases b with
    | true =>
      refine Ev.to (Ev.next h1 fun k => ?_) (by simp)
      simp only [spec_l19Mains.l1]; rw [if_neg (by omega), if_pos (by first | rfl | trivial), if_pos (by omega), wrap_succ (by omega)]
    | false =>
      refine Ev.to (Ev.next h2 fun k => ?_) (by simp)
      simp only [spec_l19Mains.l1]; rw [if_neg (by omega), if_neg (by decide), wrap_succ (by omega)]
  · intro n hn ih b
    cases b with
    | true =>
      refine Ev.to (Ev.next (ih (mainX r L[n])) fun k => ?_) (by rw [all_drop hn]; simp)
      simp only [spec_l19Mains.l1, spec_l13List.f, spec_VecTop.f]
      rw [if_pos (by omega), if_pos (by first | rfl | trivial), if_pos (by omega)]
      simp only [Option.bind_some]
      rw [if_pos (by omega), if_pos (by simp; omega), rdD_nat L n hn, rd_three _ _ _ _ (by omega) (by omega), wrap_succ (by omega)]
      rfl
    | false =>
      refine Ev.to (Ev.next (ih false) fun k => ?_) (by simp)
      simp only [spec_l19Mains.l1]
      rw [if_pos (by omega), if_neg (by decide), wrap_succ (by omega)]

theorem sMains_loop (L : List S43) (hl : L.length ≤ 1048576) : ∀ r, r ≤ 3 → ∀ acc : List Int, acc.length ≤ r → Ev (fun k => spec_l19Mains.l0 k L acc (r : Int)) (acc ++ mainsFrom L r) := by
  refine down ?_ ?_
  · intro acc ha
    refine Ev.to (Ev.next (Ev.next (f := fun _ => some acc) (Ev.now _) (g := fun k => spec_l19Mains.j1 k L acc ((3 : Nat) : Int) false) fun k => ?_) fun k => ?_) (by simp [mainsFrom])
    · simp only [spec_l19Mains.j1]; rw [if_neg (by decide)]
    · simp only [spec_l19Mains.l0]; rw [if_neg (by omega)]
  · intro r hr ih acc ha
    by_cases h0 : 0 < L.length
    · have h1 := ih (acc ++ [(r : Int)]) (by simp; omega)
      have h2 := ih acc (by omega)
      have hin := sMains_in L hl r hr acc ha _ h1 h2 0 (by omega) true
      refine Ev.to (Ev.next (Ev.next hin (g := fun k => spec_l19Mains.j1 k L acc (r : Int) true) fun k => ?_) fun k => ?_) ?_
      · simp only [spec_l19Mains.j1]; rw [if_pos (by first | rfl | trivial)]; rfl
      · simp only [spec_l19Mains.l0]; rw [if_pos (by omega), decide_eq_true (show (L.length : Int) > 0 by omega)]
      · rw [mains_cons L r hr]; unfold mainAt; rw [decide_eq_true h0]; simp
    · have hm : ∀ r, mainsFrom L r = [] := by
        intro r; unfold mainsFrom; rw [List.filter_eq_nil_iff]; intro a _; unfold mainAt; simp [h0]
      refine Ev.to (Ev.next (Ev.next (f := fun _ => some acc) (Ev.now _) (g := fun k => spec_l19Mains.j1 k L acc (r : Int) false) fun k => ?_) fun k => ?_) (by rw [hm]; simp)
      · simp only [spec_l19Mains.j1]; rw [if_neg (by decide)]
      · simp only [spec_l19Mains.l0]; rw [if_pos (by omega), decide_eq_false (show ¬ (L.length : Int) > 0 by omega)]

theorem sMains_ev (L : List S43) (hl : L.length ≤ 1048576) : Ev (fun k => spec_l19Mains.f k L) (mainsM L) := by
  have := sMains_loop L hl 0 (by omega) [] (by simp)
  simpa [spec_l19Mains.f, mainsM] using this

theorem iMains_loop (L : List S43) (hl : L.length ≤ 1048576) : ∀ r, r ≤ 3 → ∀ acc : List Int, acc.length ≤ r → Ev (fun k => impl_mains.l0 k L acc (r : Int)) (acc ++ mainsFrom L r) := by
  refine down ?_ ?_
  · intro acc ha
    refine Ev.to (Ev.next (f := fun _ => some acc) (Ev.now _) fun k => ?_) (by simp [mainsFrom])
    simp only [impl_mains.l0]; rw [if_neg (by omega)]
  · intro r hr ih acc ha
    have h1 := ih (acc ++ [(r : Int)]) (by simp; omega)
    have h2 := ih acc (by omega)
    by_cases h0 : 0 < L.length
    · have hc : Ev (fun k => slices_ContainsFunc_impl_Deal_impl_Deal.f k L (fun z0_ z1_ z2_ z3_ z4_ z5_ => impl_mains_1.f z0_ z1_ z2_ z3_ z4_ z5_ (r : Int))) (L.any fun x => !mainX r x) := by
        refine iContainsD L hl (fun _ z0_ z1_ z2_ z3_ z4_ z5_ => impl_mains_1.f z0_ z1_ z2_ z3_ z4_ z5_ (r : Int)) _ ?_
        intro x _
        refine Ev.now' fun k => ?_
        simp only [impl_mains_1.f, impl_Vec_on.f, impl_VecTop.f]
        rw [if_pos (by omega), if_pos (by omega)]
        rfl
      refine Ev.next (Ev.bind hc (f := fun k t => if t = true then impl_mains.l0 k L acc ((r + 1 : Nat) : Int) else impl_mains.l0 k L (acc ++ [(r : Int)]) ((r + 1 : Nat) : Int)) ?_) fun k => ?_
      · rw [mains_cons L r hr]
        cases hm : mainAt L (r : Int) with
        | true =>
          have : (L.any fun x => !mainX r x) = false := by
            unfold mainAt at hm; simp only [Bool.and_eq_true] at hm
            rw [List.any_eq_false]; intro x hx; simpa using (List.all_eq_true.1 hm.2) x hx
          rw [this]
          simpa using h1
        | false =>
          have : (L.any fun x => !mainX r x) = true := by
            unfold mainAt at hm; rw [decide_eq_true h0, Bool.true_and] at hm
            rw [← Bool.not_eq_false, ← List.not_all_eq_any_not, hm]; decide
          rw [this]
          simpa using h2
      · simp only [impl_mains.l0]
        rw [if_pos (by omega), if_pos (by omega), wrap_succ (by omega)]
        simp only [if_pos (show acc.length < 17592186044416 by omega)]
    · have hm : mainAt L (r : Int) = false := by unfold mainAt; simp [h0]
      refine Ev.to (Ev.next h2 fun k => ?_) (by rw [mains_cons L r hr, hm]; simp)
      simp only [impl_mains.l0]
      rw [if_pos (by omega), if_neg (by omega), wrap_succ (by omega)]

theorem iMains_ev (L : List S43) (hl : L.length ≤ 1048576) : Ev (fun k => impl_mains.f k L) (mainsM L) := by
  have := iMains_loop L hl 0 (by omega) [] (by simp)
  simpa [impl_mains.f, mainsM] using this

/-- What is computed, and what is known of it. -/
def G {α : Type} (f : Nat → Option α) (P : α → Prop) : Prop := ∃ t, Ev f t ∧ P t
theorem G.bind {α β : Type} {f : Nat → Option α} {h : Nat → α → Option β} {P : α → Prop} {Q : β → Prop} (hf : G f P) (hh : ∀ t, P t → G (fun k => h k t) Q) : G (fun k => (f k).bind (h k)) Q := by
  obtain ⟨t, ht, hP⟩ := hf
  obtain ⟨u, hu, hQ⟩ := hh t hP
  exact ⟨u, Ev.bind ht hu, hQ⟩
theorem G.now {α : Type} {t : α} {P : α → Prop} (h : P t) : G (fun _ => some t) P := ⟨t, Ev.now t, h⟩
theorem G.of {α : Type} {f : Option α} {P : α → Prop} (h : ∃ t, f = some t ∧ P t) : G (fun _ => f) P := by
  obtain ⟨t, rfl, hP⟩ := h
  exact G.now hP
theorem G.next {α : Type} {g f : Nat → Option α} {P : α → Prop} (h : G f P) (e : ∀ k, g (k + 1) = f k) : G g P := by
  obtain ⟨t, ht, hP⟩ := h
  exact ⟨t, Ev.next ht e, hP⟩
theorem G.ev {α : Type} {f : Nat → Option α} {t : α} {P : α → Prop} (h : Ev f t) (hP : P t) : G f P := ⟨t, h, hP⟩

def marksI (k : Int) (n : Nat) : List Int := (List.range n).map (fun (i : Nat) => k + (i : Int))
theorem marksI_len (k : Int) (n : Nat) : (marksI k n).length = n := by simp [marksI]
theorem marksI_next (k : Int) (n : Nat) : marksI k (n + 1) = marksI k n ++ [k + (n : Int)] := by simp [marksI, List.range_succ]
theorem marksI_at (k : Int) {n i : Nat} (h : i < n) : (marksI k n)[i]'(by rw [marksI_len]; exact h) = k + (i : Int) := by simp [marksI]
theorem markInts_loop (k0 : Int) (h0 : 0 ≤ k0) (m : Nat) (hm : m ≤ 1048576) (hk : k0 ≤ 1000000000000000) : ∀ n, n ≤ m → ∀ acc : List Int, acc.length = m → acc.take n = marksI k0 n → Ev (fun k => laws_markIntS.l0 k acc (k0 + (n : Int)) (n : Int)) (k0 + (m : Int), marksI k0 m) := by
  refine down ?_ ?_
  · intro acc ha ht
    have e : acc = marksI k0 m := by rw [List.take_of_length_le (by omega)] at ht; exact ht
    subst e
    refine Ev.next (f := fun _ => some _) (Ev.now _) fun k => ?_
    simp only [laws_markIntS.l0]; rw [if_neg (by omega)]
  · intro n hn ih acc ha ht
    refine Ev.next (ih (acc.set n (k0 + (n : Int))) (by simpa using ha) ?_) fun k => ?_
    · rw [marksI_next, List.take_set, List.take_add_one, ht, List.getElem?_eq_getElem (by omega)]
      simp only [Option.toList_some]
      rw [List.set_append_right _ _ (by rw [marksI_len]; omega), marksI_len]
      simp
    · simp only [laws_markIntS.l0, Int.toNat_natCast]
      rw [if_pos (by omega), if_pos (by omega), wrap_id (x := k0 + (n : Int) + 1) (by omega) (by omega), wrap_succ (by omega), show k0 + (n : Int) + 1 = k0 + ((n + 1 : Nat) : Int) by omega]
theorem markInts_ev (l : List Int) (hl : l.length ≤ 1048576) (k0 : Int) (h0 : 0 ≤ k0) (hk : k0 ≤ 1000000000000000) : Ev (fun k => laws_markIntS.f k l k0) (k0 + (l.length : Int), marksI k0 l.length) := by
  have := markInts_loop k0 h0 l.length hl hk 0 (by omega) l rfl rfl
  exact Ev.congr (fun k => by unfold laws_markIntS.f; simp) this
theorem heldInts_loop (k0 : Int) (h0 : 0 ≤ k0) (m : Nat) (hm : m ≤ 1048576) (hk : k0 ≤ 1000000000000000) : ∀ n, n ≤ m → Ev (fun k => laws_heldIntS.l0 k (marksI k0 m) (k0 + (n : Int)) (n : Int)) (k0 + (m : Int)) := by
  have hl := marksI_len k0 m
  refine down ?_ ?_
  · refine Ev.next (f := fun _ => some _) (Ev.now _) fun k => ?_
    simp only [laws_heldIntS.l0]; rw [if_neg (by omega)]
  · intro n hn ih
    refine Ev.next ih fun k => ?_
    simp only [laws_heldIntS.l0]
    rw [if_pos (by omega), if_pos (by omega), rd_nat, getD_lt 0 (by omega), marksI_at k0 hn, if_pos rfl, wrap_id (x := k0 + (n : Int) + 1) (by omega) (by omega), wrap_succ (by omega), show k0 + (n : Int) + 1 = k0 + ((n + 1 : Nat) : Int) by omega]
theorem heldInts_ev (m : Nat) (hm : m ≤ 1048576) (k0 : Int) (h0 : 0 ≤ k0) (hk : k0 ≤ 1000000000000000) : Ev (fun k => laws_heldIntS.f k (marksI k0 m) k0) (k0 + (m : Int)) := by
  have := heldInts_loop k0 h0 m hm hk 0 (by omega)
  exact Ev.congr (fun k => by unfold laws_heldIntS.f; simp) this

theorem rdD_set (l : List S43) (n : Nat) (h : n < l.length) (v : S43) : rd_T43 (l.set n v) (n : Int) = v := by
  rw [rdD_nat _ n (by simpa using h)]; simp
theorem markDeals_loop (m : Nat) (hm : m ≤ 1048576) : ∀ n, n ≤ m → ∀ (acc : List S43) (k0 : Int), acc.length = m → (∀ x ∈ acc, x.f3.length ≤ 1048576) → 0 ≤ k0 → k0 ≤ 1 + 2097152 * (n : Int) → G (fun k => laws_markDealS.l0 k acc k0 (n : Int)) (fun r => 0 ≤ r.1) := by
  refine down ?_ ?_
  · intro acc k0 ha hx h0 hk
    refine G.next (f := fun _ => some (k0, acc)) (G.now h0) fun k => ?_
    simp only [laws_markDealS.l0]; rw [if_neg (by omega)]
  · intro n hn ih acc k0 ha hx h0 hk
    have hb : (acc[n]'(by omega)).f3.length ≤ 1048576 := hx _ (List.getElem_mem _)
    refine G.next (f := fun k => (laws_markIntS.f k (acc[n]'(by omega)).f3 (k0 + 5)).bind fun bt => laws_markDealS.l0 k (acc.set n ⟨k0, k0 + 1, ⟨k0 + 2, k0 + 3, k0 + 4⟩, bt.2⟩) bt.1 ((n + 1 : Nat) : Int)) ?_ fun k => ?_
    · refine G.bind (P := fun t => t = (k0 + 5 + ((acc[n]'(by omega)).f3.length : Int), marksI (k0 + 5) (acc[n]'(by omega)).f3.length)) (G.ev (markInts_ev _ hb (k0 + 5) (by omega) (by omega)) rfl) ?_
      intro t ht
      subst ht
      refine ih _ _ (by simpa using ha) (fun x hm => ?_) (by omega) (by omega)
      rcases List.mem_or_eq_of_mem_set hm with h | h
      · exact hx x h
      · subst h; simpa [marksI_len] using hb
    · simp only [laws_markDealS.l0, Option.bind_some, Int.toNat_natCast]
      rw [if_pos (by omega), if_pos (by omega)]
      simp only [rdD_set _ n (show n < acc.length by omega), rdD_set _ n (show n < (acc.set n _).length by simp only [List.length_set]; omega), List.set_set, rdD_nat acc n (by omega)]
      rw [wrap_id (x := k0 + 1) (by omega) (by omega), wrap_id (x := k0 + 1 + 1) (by omega) (by omega), wrap_id (x := k0 + 1 + 1 + 1) (by omega) (by omega), wrap_id (x := k0 + 1 + 1 + 1 + 1) (by omega) (by omega), wrap_id (x := k0 + 1 + 1 + 1 + 1 + 1) (by omega) (by omega), wrap_succ (by omega)]
      rw [show k0 + 1 + 1 + 1 + 1 + 1 = k0 + 5 by omega, show k0 + 1 + 1 + 1 + 1 = k0 + 4 by omega, show k0 + 1 + 1 + 1 = k0 + 3 by omega, show k0 + 1 + 1 = k0 + 2 by omega]
theorem markDeals_G (l : List S43) (hl : l.length ≤ 1048576) (hx : ∀ x ∈ l, x.f3.length ≤ 1048576) : G (fun k => laws_markDealS.f k l 1) (fun r => 0 ≤ r.1) := by
  obtain ⟨t, ht, hP⟩ := markDeals_loop l.length hl 0 (by omega) l 1 rfl hx (by omega) (by omega)
  exact ⟨t, Ev.congr (fun k => by unfold laws_markDealS.f; simp) ht, hP⟩

theorem sMainsF_ev (L : List S43) (id a b : Int) (hl : L.length ≤ 1048576) (hx : ∀ x ∈ L, x.f3.length ≤ 1048576) : Ev (fun k => spec_Mains.f k L id a b) (if spanM L a b = true then mainsM (mineM (cutM L a b) id) else []) := by
  unfold spec_Mains.f
  refine Ev.bind (sSpan_ev L a b hl hx) ?_
  cases h : spanM L a b with
  | false => exact Ev.now' fun k => by simp
  | true =>
    have h' : 0 ≤ a ∧ a ≤ b ∧ b ≤ L.length := by unfold spanM at h; simp at h; omega
    simp only [if_true]
    refine Ev.bind (sMine_ev L id a b h'.1 h'.2.1 h'.2.2 hl) ?_
    refine Ev.bind (sMains_ev _ (by have := mine_len (cutM L a b) id; have := cut_len L a b; omega)) ?_
    exact Ev.now _
theorem iMainsF_ev (L : List S43) (id a b : Int) (hl : L.length ≤ 1048576) (hx : ∀ x ∈ L, x.f3.length ≤ 1048576) : Ev (fun k => impl_Mains.f k L id a b) (if spanM L a b = true then mainsM (mineM (cutM L a b) id) else []) := by
  unfold impl_Mains.f
  refine Ev.bind (iSpan_ev L a b hl hx) ?_
  cases h : spanM L a b with
  | false => exact Ev.now' fun k => by simp
  | true =>
    simp only [if_true]
    have := mine_len (cutM L a b) id
    have := cut_len L a b
    refine Ev.bind (iMine_ev (cutM L a b) id (by omega)) ?_
    refine Ev.bind (iMains_ev _ (by omega)) ?_
    exact Ev.now _
theorem FnExactMains : laws_FnExactMains.Pure := by
  intro y0 y1 y2 y3 hy0 _ _ _
  refine Ev.rounds ?_
  obtain ⟨s, hs, hd⟩ := szDeals_ev y0 hy0.1 (fun x hx => (hy0.2 x hx).2.2.2.1)
  unfold laws_FnExactMains.f
  refine Ev.bind hs ?_
  rcases hd with hd | ⟨hl, hx⟩
  · exact Ev.now' fun k => if_pos hd
  · by_cases hn : s < 0
    · exact Ev.now' fun k => if_pos hn
    · simp only [if_neg hn]
      have hT := toDeals_ev y0 hl hx
      have hl' : (y0.map toD).length ≤ 1048576 := by simpa using hl
      have hx' := toD_len hx
      have hI := iMainsF_ev _ y1 y2 y3 hl' hx'
      refine Ev.bind hT (Ev.bind (sMainsF_ev _ y1 y2 y3 hl' hx') (Ev.bind hT (Ev.bind hI ?_)))
      generalize hR : (if spanM (y0.map toD) y2 y3 = true then mainsM (mineM (cutM (y0.map toD) y2 y3) y1) else []) = R at hI
      have hRl : R.length ≤ 3 := by
        rw [← hR]; split
        · exact mains_len _
        · simp
      refine Ev.bind (eqInts_ev R (by omega)) ?_
      simp only [if_true]
      refine Ev.bind hT (Ev.bind (eqDeals_ev _ hl' hx') ?_)
      simp only [if_true]
      obtain ⟨t, ht, h0⟩ := markDeals_G _ hl' hx'
      refine Ev.bind ht ?_
      simp only [if_neg (show ¬ t.1 < 0 by omega)]
      refine Ev.bind (eqInts_ev R (by omega)) ?_
      have hM := markInts_ev R (by omega) 1 (by omega) (by omega)
      have hH := heldInts_ev R.length (by omega) 1 (by omega) (by omega)
      refine Ev.next (f := fun k => (laws_markIntS.f k R 1).bind fun bt => (laws_heldIntS.f k bt.2 1).bind fun t286 => if t286 < 0 then some false else if t286 = bt.1 then (laws_toDealS.f k y0).bind fun t287 => (impl_Mains.f k t287 y1 y2 y3).bind fun t290 => (laws_eqIntS.f k t290 R).bind fun t293 => if t293 = true then (laws_heldIntS.f k bt.2 1).bind fun t294 => if t294 < 0 then some false else if t294 = bt.1 then some true else some false else some false else some false) ?_ fun k => ?_
      · refine Ev.bind hM (Ev.bind hH ?_)
        simp only [if_neg (show ¬ (1 + (R.length : Int) < 0) by omega), if_true]
        refine Ev.bind hT (Ev.bind hI (Ev.bind (eqInts_ev R (by omega)) ?_))
        simp only [if_true]
        refine Ev.bind hH ?_
        simp only [if_neg (show ¬ (1 + (R.length : Int) < 0) by omega), if_true]
        exact Ev.now _
      · simp only [laws_FnExactMains.j0, Bool.not_true, if_neg (show ¬ (false = true) by decide)]

end Go.Proofs.Ytecabogkenabnac.Pure
