/- A key turned twice is itself, and a rule has a key just where the rule with its ends exchanged has the turned key: the law answers true at every code. No condition. -/
import Derived.Test.YtjhgkonacdimfaaPFnTurnedKeyx23
namespace Go.Proofs.Ytjhgkonacdimfaa.Pure
open Go.RowKit Go.Proofs.Ytjhgkonacdimfaa.PFnTurnedKey Go.Proofs.YtjhgkonacdimfaaW.PrintWords Go.Proofs.YtjhgkonacdimfaaW.PrintLast Go.Proofs.YtjhgkonacdimfaaW.PrintMore Go.Proofs.YtjhgkonacdimfaaV
set_option linter.unusedVariables false
set_option linter.unusedSimpArgs false

theorem down {N : Nat} {P : Nat → Prop} (h0 : P N) (hs : ∀ n, n < N → P (n + 1) → P n) : ∀ n, n ≤ N → P n := by
  intro n hn
  obtain ⟨d, rfl⟩ : ∃ d, N = n + d := ⟨N - n, by omega⟩
  clear hn
  induction d generalizing n with
  | zero => exact h0
  | succ d ih => exact hs n (by omega) (ih (n + 1) (by rw [show n + 1 + d = n + (d + 1) by omega]; exact h0) (fun m hm hp => hs m (by omega) hp))

theorem wrap_id {x : Int} (h1 : -9223372036854775808 ≤ x) (h2 : x ≤ 9223372036854775807) : wrap64 x = x := by
  unfold wrap64; omega

theorem wrap_succ {n : Nat} (h : n < 4611686018427387904) : wrap64 ((n : Int) + 1) = ((n + 1 : Nat) : Int) := by
  rw [wrap_id (by omega) (by omega)]; omega

theorem wrap_pred {n : Nat} (h0 : 0 < n) (h : n < 4611686018427387904) : wrap64 ((n : Int) - 1) = ((n - 1 : Nat) : Int) := by
  rw [wrap_id (by omega) (by omega)]; omega

theorem getD_lt {α : Type} {l : List α} {n : Nat} (d : α) (h : n < l.length) : l.getD n d = l[n] := by
  rw [List.getD_eq_getElem?_getD, List.getElem?_eq_getElem h]; rfl

theorem rd_nat (l : List Int) (n : Nat) : rd l (n : Int) = l.getD n 0 := by
  unfold rd; simp

theorem Ev.now' {α : Type} {g : Nat → Option α} {r : α} (h : ∀ k, g k = some r) : Ev g r := ⟨0, fun k _ => h k⟩

/-- One round, and what follows. -/
theorem Ev.next {α : Type} {g f : Nat → Option α} {r : α} (k : Ev f r) (h : ∀ k, g (k + 1) = f k) : Ev g r := Ev.step h k

theorem Ev.to {α : Type} {g : Nat → Option α} {r q : α} (h : Ev g r) (e : r = q) : Ev g q := e ▸ h

theorem list_drop_cons {α : Type} {l : List α} {n : Nat} (h : n < l.length) : l.drop n = l[n] :: l.drop (n + 1) := List.drop_eq_getElem_cons h

theorem mem_drop {α : Type} {l : List α} {n : Nat} (h : n < l.length) {x : α} : x ∈ l.drop n ↔ x = l[n] ∨ x ∈ l.drop (n + 1) := by
  rw [List.drop_eq_getElem_cons h, List.mem_cons]

theorem any_drop {α : Type} {l : List α} {n : Nat} (h : n < l.length) (q : α → Bool) : (l.drop n).any q = (q l[n] || (l.drop (n + 1)).any q) := by
  rw [List.drop_eq_getElem_cons h, List.any_cons]

theorem all_drop {α : Type} {l : List α} {n : Nat} (h : n < l.length) (q : α → Bool) : (l.drop n).all q = (q l[n] && (l.drop (n + 1)).all q) := by
  rw [List.drop_eq_getElem_cons h, List.all_cons]

theorem dec_false {p : Prop} [Decidable p] (h : ¬ p) : false = decide p := (decide_eq_false h).symm
theorem dec_true {p : Prop} [Decidable p] (h : p) : true = decide p := (decide_eq_true h).symm
theorem dec_iff {p q : Prop} [Decidable p] [Decidable q] (h : p ↔ q) : decide p = decide q := decide_eq_decide.2 h

theorem within_eq (a b c : Int) : impl_within.f a b c = some (decide (b ≤ a ∧ a ≤ c)) := by
  unfold impl_within.f
  by_cases h : a ≥ b
  · rw [if_pos h]; congr 1; simp; omega
  · rw [if_neg h]; congr 1; simp; omega

theorem grow_eq (n : Int) (h0 : 0 ≤ n) (h1 : n ≤ 1048576) : slices_Grow_byte_byte.f n = some [] := by
  have e : wrap64 n = n := wrap_id (by omega) (by omega)
  unfold slices_Grow_byte_byte.f
  rw [if_neg (by omega), e]
  by_cases h : n > 0
  · rw [if_pos h, if_pos h0, if_pos (by simp; omega)]
    simp
  · rw [if_neg h]

def sumLen (LL : List (List Int)) : Nat := LL.flatten.length
theorem rdL_nat (LL : List (List Int)) (n : Nat) (h : n < LL.length) : rd_L2 LL (n : Int) = LL[n] := by
  unfold rd_L2; rw [Int.toNat_natCast, getD_lt _ h]
theorem flat_drop {LL : List (List Int)} {n : Nat} (h : n < LL.length) : (LL.drop n).flatten = LL[n] ++ (LL.drop (n + 1)).flatten := by
  rw [List.drop_eq_getElem_cons h, List.flatten_cons]

theorem concat_l1 (LL : List (List Int)) (hl : LL.length ≤ 1048576) (hs : LL.flatten.length ≤ 1048576) : ∀ n, n ≤ LL.length → ∀ acc : List Int, acc.length + (LL.drop n).flatten.length ≤ 1048576 → Ev (fun k => slices_Concat_byte_byte.l1 k acc LL (LL.length : Int) (n : Int)) (acc ++ (LL.drop n).flatten) := by
  refine down ?_ ?_
  · intro acc ha
    refine Ev.to (Ev.next (f := fun _ => some acc) (Ev.now _) fun k => ?_) (by simp)
    simp only [slices_Concat_byte_byte.l1]; rw [if_neg (by omega)]
  · intro n hn ih acc ha
    rw [flat_drop hn] at ha ⊢
    rw [List.length_append] at ha
    refine Ev.to (Ev.next (ih (acc ++ LL[n]) (by rw [List.length_append]; omega)) fun k => ?_) (by simp)
    simp only [slices_Concat_byte_byte.l1]
    rw [if_pos (by omega), if_pos (by omega), if_pos (by omega), rdL_nat LL n hn, if_pos (by omega), wrap_succ (by omega)]

theorem concat_l0 (LL : List (List Int)) (hl : LL.length ≤ 1048576) (hs : LL.flatten.length ≤ 1048576) : ∀ n, n ≤ LL.length → ∀ s : Nat, s + (LL.drop n).flatten.length ≤ 1048576 → Ev (fun k => slices_Concat_byte_byte.l0 k LL (s : Int) LL (LL.length : Int) (n : Int)) LL.flatten := by
  refine down ?_ ?_
  · intro s hs'
    refine Ev.to (Ev.next (concat_l1 LL hl hs 0 (by omega) [] (by simpa using hs)) fun k => ?_) (by simp)
    simp only [slices_Concat_byte_byte.l0]; rw [if_neg (by omega), grow_eq _ (by omega) (by omega)]; rfl
  · intro n hn ih s hs'
    rw [flat_drop hn, List.length_append] at hs'
    refine Ev.next (ih (s + LL[n].length) (by omega)) fun k => ?_
    simp only [slices_Concat_byte_byte.l0]
    rw [if_pos (by omega), if_pos (by omega), if_pos (by omega), rdL_nat LL n hn, wrap_id (by omega) (by omega), if_neg (by omega), wrap_succ (by omega), show (s : Int) + (LL[n].length : Int) = ((s + LL[n].length : Nat) : Int) by omega]

theorem concat_ev (LL : List (List Int)) (hl : LL.length ≤ 1048576) (hs : LL.flatten.length ≤ 1048576) : Ev (fun k => slices_Concat_byte_byte.f k LL) LL.flatten := by
  have := concat_l0 LL hl hs 0 (by omega) 0 (by simpa using hs)
  exact Ev.congr (fun k => by unfold slices_Concat_byte_byte.f; rfl) this

def halfM (x : Int) : Bool := decide (0 ≤ x ∧ x ≤ 4294967295)
def addrM (q a b c d : Int) : Bool := if q = 4 then decide (a = 0 ∧ b = 0 ∧ c = 0) && halfM d else if q = 6 then halfM a && (halfM b && (halfM c && halfM d)) else false
def put4 (x : Int) : List Int := [x / 16777216 % 256, x / 65536 % 256, x / 256 % 256, x % 256]
def addrBytesM (q a b c d : Int) : List Int := if addrM q a b c d = true then (if q = 4 then put4 d else put4 a ++ put4 b ++ put4 c ++ put4 d) else []
def bitsM (q : Int) : Int := if q = 4 then 32 else 128

theorem half_true {x : Int} (h : halfM x = true) : 0 ≤ x ∧ x ≤ 4294967295 := by simpa [halfM] using h
theorem sHalf_eq (x : Int) : spec_l03Half.f x = some (halfM x) := by
  unfold spec_l03Half.f halfM
  by_cases h : x ≥ 0
  · rw [if_pos h]; congr 1; exact dec_iff (by omega)
  · rw [if_neg h]; congr 1; exact dec_false (by omega)
theorem iHalf_eq (x : Int) : impl_isLong.f x = some (halfM x) := by
  unfold impl_isLong.f; rw [within_eq]; rfl

theorem sAddrOk_eq (q a b c d : Int) : spec_AddrOk.f q a b c d = some (addrM q a b c d) := by
  unfold spec_AddrOk.f addrM
  simp only [sHalf_eq, Option.bind_some]
  by_cases h4 : q = 4
  · rw [if_pos h4, if_pos h4]
    by_cases ha : a = 0 <;> by_cases hb : b = 0 <;> by_cases hc : c = 0 <;> simp [ha, hb, hc]
  · rw [if_neg h4, if_neg h4]
    by_cases h6 : q = 6
    · rw [if_pos h6, if_pos h6]
      cases halfM a <;> cases halfM b <;> cases halfM c <;> simp
    · rw [if_neg h6, if_neg h6]
theorem iAddrOk_eq (q a b c d : Int) : impl_AddrOk.f q a b c d = some (addrM q a b c d) := by
  unfold impl_AddrOk.f addrM
  simp only [iHalf_eq, Option.bind_some]
  by_cases h4 : q = 4
  · rw [if_pos h4, if_pos h4]
    by_cases ha : a = 0 <;> by_cases hb : b = 0 <;> by_cases hc : c = 0 <;> simp [ha, hb, hc]
  · rw [if_neg h4, if_neg h4]
    by_cases h6 : q = 6
    · rw [if_pos h6, if_pos h6]
      cases halfM a <;> cases halfM b <;> cases halfM c <;> simp
    · rw [if_neg h6, if_neg h6]

theorem low_eq (x m : Int) (h0 : 0 ≤ x) (hm : 0 < m) (h1 : x < m) : spec_l01Low.f x m = some x := by
  unfold spec_l01Low.f
  rw [if_neg (by omega), Int.tmod_eq_emod_of_nonneg h0, Int.emod_eq_of_lt h0 h1, if_neg (by omega)]

theorem sPut16_eq (x : Int) (h0 : 0 ≤ x) (h1 : x < 65536) : spec_Put16.f x = some [x / 256 % 256, x % 256] := by
  unfold spec_Put16.f
  rw [low_eq x 65536 h0 (by omega) h1, Option.bind_some, Int.tdiv_eq_ediv_of_nonneg h0, Int.tmod_eq_emod_of_nonneg h0, wrap_id (by omega) (by omega), Int.emod_emod_of_dvd _ (by omega : (256 : Int) ∣ 256)]

theorem sPut32_eq (x : Int) (h : halfM x = true) : spec_Put32.f x = some (put4 x) := by
  have h' := half_true h
  unfold spec_Put32.f put4
  rw [low_eq x 4294967296 h'.1 (by omega) (by omega), Option.bind_some, Int.tdiv_eq_ediv_of_nonneg h'.1, Int.tmod_eq_emod_of_nonneg h'.1, wrap_id (by omega) (by omega), sPut16_eq _ (by omega) (by omega), sPut16_eq _ (by omega) (by omega)]
  simp only [Option.bind_some, List.length_cons, List.length_nil]
  rw [if_pos (by omega)]
  have e1 : x / 65536 / 256 % 256 = x / 16777216 % 256 := by omega
  have e3 : x % 65536 / 256 % 256 = x / 256 % 256 := by omega
  have e4 : x % 65536 % 256 = x % 256 := by omega
  rw [e1, e3, e4]; rfl

theorem iPut32_ev (x : Int) : Ev (fun k => impl_Put32.f k x) (put4 x) := by
  refine ⟨5, fun k hk => ?_⟩
  obtain ⟨m, rfl⟩ : ∃ m, k = m + 5 := ⟨k - 5, by omega⟩
  simp [impl_Put32.f, impl_put.f, impl_put.l0, wrap64, shr, put4, IntKind.bits]

theorem put4_len (x : Int) : (put4 x).length = 4 := rfl

theorem sAddrBytes_eq (q a b c d : Int) : spec_AddrBytes.f q a b c d = some (addrBytesM q a b c d) := by
  unfold spec_AddrBytes.f addrBytesM
  rw [sAddrOk_eq, Option.bind_some]
  cases h : addrM q a b c d with
  | false => simp
  | true =>
    unfold addrM at h
    rw [if_pos rfl, if_pos rfl]
    by_cases h4 : q = 4
    · rw [if_pos h4] at h ⊢
      rw [if_pos h4, sPut32_eq d (by simp at h; exact h.2)]; rfl
    · rw [if_neg h4] at h
      by_cases h6 : q = 6
      · rw [if_pos h6] at h
        simp only [Bool.and_eq_true] at h
        rw [if_neg h4, if_neg h4, sPut32_eq a h.1, sPut32_eq b h.2.1, sPut32_eq c h.2.2.1, sPut32_eq d h.2.2.2]
        simp [put4_len]
      · rw [if_neg h6] at h; cases h

theorem iAddrBytes_ev (q a b c d : Int) : Ev (fun k => impl_AddrBytes.f k q a b c d) (addrBytesM q a b c d) := by
  unfold impl_AddrBytes.f addrBytesM
  simp only [iAddrOk_eq, Option.bind_some]
  cases addrM q a b c d with
  | false => exact Ev.now' fun k => by simp
  | true =>
    simp only [if_true]
    by_cases h4 : q = 4
    · simp only [if_pos h4]
      exact Ev.bind (iPut32_ev d) (f := fun _ t => some t) (Ev.now _)
    · simp only [if_neg h4]
      refine Ev.bind (iPut32_ev a) (Ev.bind (iPut32_ev b) (Ev.bind (iPut32_ev c) (Ev.bind (iPut32_ev d) ?_)))
      refine Ev.to (Ev.bind (concat_ev [put4 a, put4 b, put4 c, put4 d] (by simp) (by simp [put4_len])) (f := fun _ t => some t) (Ev.now _)) (by simp)

theorem put4_byte {x y : Int} (h : y ∈ put4 x) : 0 ≤ y ∧ y < 256 := by
  unfold put4 at h
  simp only [List.mem_cons, List.not_mem_nil, or_false] at h
  omega
theorem addrBytes_byte {q a b c d y : Int} (h : y ∈ addrBytesM q a b c d) : 0 ≤ y ∧ y < 256 := by
  unfold addrBytesM at h
  split at h
  · split at h
    · exact put4_byte h
    · simp only [List.mem_append] at h
      rcases h with ((h | h) | h) | h <;> exact put4_byte h
  · cases h
theorem addrBytes_len {q a b c d : Int} (h : addrM q a b c d = true) : ((addrBytesM q a b c d).length : Int) * 8 = bitsM q ∧ ((addrBytesM q a b c d).length = 4 ∨ (addrBytesM q a b c d).length = 16) := by
  unfold addrBytesM bitsM
  rw [if_pos h]
  by_cases h4 : q = 4
  · rw [if_pos h4, if_pos h4]; simp [put4_len]
  · rw [if_neg h4, if_neg h4]; simp [put4_len]

/-- The top bits of a byte. -/
def maskTop (b : Int) (r : Nat) : Int := b / 2 ^ (8 - r) * 2 ^ (8 - r)
/-- A byte without one of its bits. -/
def clr (b : Int) (j : Nat) : Int := if b / (128 / 2 ^ j) % 2 = 1 then b - 128 / 2 ^ j else b
def clrs (b : Int) : Nat → Nat → Int
  | _, 0 => b
  | j, d + 1 => clrs (clr b j) (j + 1) d
theorem and_tab : ∀ b : Fin 256, ∀ r : Fin 9, Go.bits .and .u8 (b.val : Int) ((shr .u16 65280 (r.val : Int)) % 256) = maskTop (b.val : Int) r.val := by decide +kernel
theorem clr_tab : ∀ b : Fin 256, ∀ s : Fin 9, clrs (b.val : Int) s.val (8 - s.val) = maskTop (b.val : Int) s.val := by decide +kernel
theorem clr_one : ∀ b : Fin 256, ∀ j : Fin 8, (if (b.val : Int) / (128 / 2 ^ j.val) % 2 = 1 then ((b.val : Int) - 128 / 2 ^ j.val % 256) % 256 else (b.val : Int)) = clr (b.val : Int) j.val ∧ 0 ≤ clr (b.val : Int) j.val ∧ clr (b.val : Int) j.val < 256 ∧ (0 : Int) < 128 / 2 ^ j.val := by decide +kernel
theorem mask_tab : ∀ b : Fin 256, ∀ r : Fin 9, 0 ≤ maskTop (b.val : Int) r.val ∧ maskTop (b.val : Int) r.val < 256 := by decide +kernel

theorem byte_fin {b : Int} (h : 0 ≤ b ∧ b < 256) : ∃ f : Fin 256, b = (f.val : Int) := ⟨⟨b.toNat, by omega⟩, by simp; omega⟩

theorem or_eq (n b : Nat) (hn : n < 1099511627776) (hb : b < 256) : Go.bits .or .i64 ((n : Int) * 256) (b : Int) = (n : Int) * 256 + b := by
  unfold Go.bits
  have e1 : BitVec.ofInt IntKind.i64.bits ((n : Int) * 256) = BitVec.ofNat 64 (n * 256) := by
    rw [show ((n : Int) * 256) = ((n * 256 : Nat) : Int) by simp]; rfl
  have e2 : BitVec.ofInt IntKind.i64.bits (b : Int) = BitVec.ofNat 64 b := rfl
  rw [e1, e2]
  show IntKind.i64.wrap ((BitVec.ofNat 64 (n * 256) ||| BitVec.ofNat 64 b).toNat : Int) = _
  rw [BitVec.toNat_or, BitVec.toNat_ofNat, BitVec.toNat_ofNat, Nat.mod_eq_of_lt (by omega), Nat.mod_eq_of_lt (by omega)]
  have h := Nat.two_pow_add_eq_or_of_lt (i := 8) (b := b) (by omega) n
  rw [show n * 256 = 2 ^ 8 * n by omega, ← h, i64_w]
  unfold wrap64; omega

def AllB (l : List Int) : Prop := ∀ x ∈ l, 0 ≤ x ∧ x < 256
theorem allB_get {l : List Int} (h : AllB l) {n : Nat} (hn : n < l.length) : 0 ≤ l.getD n 0 ∧ l.getD n 0 < 256 := by
  rw [getD_lt 0 hn]; exact h _ (List.getElem_mem hn)

/-- Four bytes as a number. -/
def beM (l : List Int) (o : Nat) : Int := ((l.getD o 0 * 256 + l.getD (o + 1) 0) * 256 + l.getD (o + 2) 0) * 256 + l.getD (o + 3) 0
def addrOfM (l : List Int) : Int × Int × Int × Int × Int × Bool := if l.length = 4 then (4, 0, 0, 0, beM l 0, true) else if l.length = 16 then (6, beM l 0, beM l 4, beM l 8, beM l 12, true) else (0, 0, 0, 0, 0, false)

theorem sBe32_ev (l : List Int) (o : Nat) (ho : o + 4 ≤ l.length) (hl : l.length ≤ 16) (hb : AllB l) : Ev (fun k => spec_Be32.f k l (o : Int)) (beM l o, true) := by
  have b0 := allB_get hb (show o < l.length by omega)
  have b1 := allB_get hb (show o + 1 < l.length by omega)
  have b2 := allB_get hb (show o + 2 < l.length by omega)
  have b3 := allB_get hb (show o + 3 < l.length by omega)
  have rd' : ∀ i : Nat, rd l ((o : Int) + (i : Int)) = l.getD (o + i) 0 := fun i => by rw [← rd_nat]; congr 1
  have step : ∀ (k : Nat) (v : Int) (i : Nat), i < 4 → 0 ≤ v → v < 16777216 → spec_Be32.l0 (k + 1) l (o : Int) v (i : Int) = spec_Be32.l0 k l (o : Int) (v * 256 + l.getD (o + i) 0) ((i + 1 : Nat) : Int) := by
    intro k v i hi h0 h1
    have bi := allB_get hb (show o + i < l.length by omega)
    simp only [spec_Be32.l0]
    rw [if_pos (by omega), wrap_id (x := (o : Int) + (i : Int)) (by omega) (by omega), if_pos (by omega), if_pos (by omega), rd', wrap_id (x := 256 * v) (by omega) (by omega), wrap_id (x := l.getD (o + i) 0) (by omega) (by omega), wrap_id (by omega) (by omega), wrap_succ (by omega), Int.mul_comm 256 v]
  refine ⟨6, fun k hk => ?_⟩
  obtain ⟨m, rfl⟩ : ∃ m, k = m + 1 + 1 + 1 + 1 + 1 + 1 := ⟨k - 6, by omega⟩
  unfold spec_Be32.f
  dsimp only
  rw [if_neg (by omega), decide_eq_false (by rw [wrap_id (by omega) (by omega)]; omega)]
  simp only [spec_Be32.j0]
  rw [if_neg (by decide)]
  have s0 := step (m + 1 + 1 + 1 + 1) 0 0 (by omega) (by omega) (by omega)
  have s1 := step (m + 1 + 1 + 1) (0 * 256 + l.getD (o + 0) 0) 1 (by omega) (by simp only [Nat.add_zero]; omega) (by simp only [Nat.add_zero]; omega)
  have s2 := step (m + 1 + 1) ((0 * 256 + l.getD (o + 0) 0) * 256 + l.getD (o + 1) 0) 2 (by omega) (by simp only [Nat.add_zero]; omega) (by simp only [Nat.add_zero]; omega)
  have s3 := step (m + 1) (((0 * 256 + l.getD (o + 0) 0) * 256 + l.getD (o + 1) 0) * 256 + l.getD (o + 2) 0) 3 (by omega) (by simp only [Nat.add_zero]; omega) (by simp only [Nat.add_zero]; omega)
  refine s0.trans (s1.trans (s2.trans (s3.trans ?_)))
  simp only [spec_Be32.l0]
  rw [if_neg (by omega)]
  simp [beM]

theorem iBe_step (l : List Int) (k : Nat) (v : Nat) (i : Nat) (hi : i < l.length) (hl : l.length ≤ 16) (hb : AllB l) (hv : v < 16777216) : impl_beOf.l0 (k + 1) (v : Int) l (l.length : Int) (i : Int) = impl_beOf.l0 k (((v * 256 + (l.getD i 0).toNat : Nat) : Int)) l (l.length : Int) ((i + 1 : Nat) : Int) := by
  have bi := allB_get hb hi
  simp only [impl_beOf.l0]
  rw [if_pos (by omega), if_pos (by omega), if_pos (by omega), rd_nat, wrap_id (x := (v : Int) * 256) (by omega) (by omega), wrap_id (x := l.getD i 0) (by omega) (by omega), wrap_succ (by omega)]
  have := or_eq v (l.getD i 0).toNat (by omega) (by omega)
  rw [show (((l.getD i 0).toNat : Nat) : Int) = l.getD i 0 by omega] at this
  rw [this, show (v : Int) * 256 + l.getD i 0 = ((v * 256 + (l.getD i 0).toNat : Nat) : Int) by omega]

theorem iBe_ev (l : List Int) (h4 : l.length = 4) (hb : AllB l) : Ev (fun k => impl_beOf.f k l) (beM l 0) := by
  have b0 := allB_get hb (show 0 < l.length by omega)
  have b1 := allB_get hb (show 1 < l.length by omega)
  have b2 := allB_get hb (show 2 < l.length by omega)
  have b3 := allB_get hb (show 3 < l.length by omega)
  refine ⟨5, fun k hk => ?_⟩
  obtain ⟨m, rfl⟩ : ∃ m, k = m + 1 + 1 + 1 + 1 + 1 := ⟨k - 5, by omega⟩
  unfold impl_beOf.f
  dsimp only
  have t0 := iBe_step l (m + 1 + 1 + 1 + 1) 0 0 (by omega) (by omega) hb (by omega)
  have t1 := iBe_step l (m + 1 + 1 + 1) (0 * 256 + (l.getD 0 0).toNat) 1 (by omega) (by omega) hb (by omega)
  have t2 := iBe_step l (m + 1 + 1) ((0 * 256 + (l.getD 0 0).toNat) * 256 + (l.getD 1 0).toNat) 2 (by omega) (by omega) hb (by omega)
  have t3 := iBe_step l (m + 1) (((0 * 256 + (l.getD 0 0).toNat) * 256 + (l.getD 1 0).toNat) * 256 + (l.getD 2 0).toNat) 3 (by omega) (by omega) hb (by omega)
  refine t0.trans (t1.trans (t2.trans (t3.trans ?_)))
  simp only [impl_beOf.l0]
  rw [if_neg (by omega)]
  congr 1
  unfold beM
  simp only [Nat.zero_add]
  omega

theorem sAddrOf_ev (l : List Int) (hb : AllB l) : Ev (fun k => spec_AddrOf.f k l) (addrOfM l) := by
  unfold spec_AddrOf.f addrOfM
  by_cases h4 : l.length = 4
  · simp only [if_pos (show (l.length : Int) = 4 by omega), if_pos h4]
    have g0 : Ev (fun k => spec_Be32.f k l 0) (beM l 0, true) := sBe32_ev l 0 (by omega) (by omega) hb
    exact Ev.bind g0 (f := fun _ bt => some ((4 : Int), (0 : Int), (0 : Int), (0 : Int), bt.1, true)) (Ev.now _)
  · simp only [if_neg (show ¬ (l.length : Int) = 4 by omega), if_neg h4]
    by_cases h16 : l.length = 16
    · simp only [if_pos (show (l.length : Int) = 16 by omega), if_pos h16]
      have g0 : Ev (fun k => spec_Be32.f k l 0) (beM l 0, true) := sBe32_ev l 0 (by omega) (by omega) hb
      have g1 : Ev (fun k => spec_Be32.f k l 4) (beM l 4, true) := sBe32_ev l 4 (by omega) (by omega) hb
      have g2 : Ev (fun k => spec_Be32.f k l 8) (beM l 8, true) := sBe32_ev l 8 (by omega) (by omega) hb
      have g3 : Ev (fun k => spec_Be32.f k l 12) (beM l 12, true) := sBe32_ev l 12 (by omega) (by omega) hb
      exact Ev.bind g0 (Ev.bind g1 (Ev.bind g2 (Ev.bind g3 (Ev.now _))))
    · simp only [if_neg (show ¬ (l.length : Int) = 16 by omega), if_neg h16]
      exact Ev.now _

theorem beM_seg (l : List Int) (o n : Nat) (h : o + 4 ≤ n) (hn : n ≤ l.length) : beM ((l.take n).drop o) 0 = beM l o := by
  have e : ∀ i, i < 4 → ((l.take n).drop o).getD i 0 = l.getD (o + i) 0 := by
    intro i hi
    rw [getD_lt 0 (by rw [List.length_drop, List.length_take]; omega), getD_lt 0 (by omega)]
    simp
  unfold beM
  rw [e 0 (by omega), e (0 + 1) (by omega), e (0 + 2) (by omega), e (0 + 3) (by omega)]
  simp only [Nat.add_zero, Nat.zero_add]

theorem allB_seg {l : List Int} (h : AllB l) (o n : Nat) : AllB ((l.take n).drop o) := fun x hx => h x (List.mem_of_mem_take (List.mem_of_mem_drop hx))

theorem iAddrOf_ev (l : List Int) (hb : AllB l) : Ev (fun k => impl_AddrOf.f k l) (addrOfM l) := by
  unfold impl_AddrOf.f addrOfM
  by_cases h4 : l.length = 4
  · simp only [if_pos (show (l.length : Int) = 4 by omega), if_pos h4]
    exact Ev.bind (iBe_ev l h4 hb) (f := fun _ t => some ((4 : Int), (0 : Int), (0 : Int), (0 : Int), t, true)) (Ev.now _)
  · simp only [if_neg (show ¬ (l.length : Int) = 4 by omega), if_neg h4]
    by_cases h16 : l.length = 16
    · simp only [if_pos (show (l.length : Int) = 16 by omega), if_pos h16, if_pos (show (4 : Int) ≤ (l.length : Int) by omega), if_pos (show (8 : Int) ≤ (l.length : Int) by omega), if_pos (show (12 : Int) ≤ (l.length : Int) by omega), if_pos (show (4 : Int) ≤ 8 by omega), if_pos (show (8 : Int) ≤ 12 by omega)]
      have g : ∀ o n : Nat, o + 4 = n → n ≤ 16 → Ev (fun k => impl_beOf.f k ((l.take n).drop o)) (beM l o) := by
        intro o n h1 h2
        exact Ev.to (iBe_ev _ (by rw [List.length_drop, List.length_take]; omega) (allB_seg hb o n)) (beM_seg l o n (by omega) (by omega))
      have g0 : Ev (fun k => impl_beOf.f k (l.take 4)) (beM l 0) := g 0 4 rfl (by omega)
      have g3 : Ev (fun k => impl_beOf.f k (l.drop 12)) (beM l 12) := by
        have := g 12 16 rfl (by omega)
        rwa [List.take_of_length_le (by omega)] at this
      exact Ev.bind g0 (Ev.bind (g 4 8 rfl (by omega)) (Ev.bind (g 8 12 rfl (by omega)) (Ev.bind g3 (Ev.now _))))
    · simp only [if_neg (show ¬ (l.length : Int) = 16 by omega), if_neg h16]
      exact Ev.now _

/-- Bits cleared one after another. -/
def sClear (B : List Int) : Nat → Nat → List Int
  | 0, _ => B
  | d + 1, q => sClear (B.set (q / 8) (clr (B.getD (q / 8) 0) (q % 8))) d (q + 1)

theorem allB_set {l : List Int} (h : AllB l) {i : Nat} {v : Int} (hv : 0 ≤ v ∧ v < 256) : AllB (l.set i v) := by
  intro x hx
  rcases List.mem_or_eq_of_mem_set hx with hx | hx
  · exact h x hx
  · subst hx; exact hv

theorem clr_byte {b : Int} (h : 0 ≤ b ∧ b < 256) {j : Nat} (hj : j < 8) : (if b / (128 / 2 ^ j) % 2 = 1 then (b - 128 / 2 ^ j % 256) % 256 else b) = clr b j ∧ 0 ≤ clr b j ∧ clr b j < 256 ∧ (0 : Int) < 128 / 2 ^ j := by
  obtain ⟨f, rfl⟩ := byte_fin h
  exact clr_one f ⟨j, hj⟩

theorem sClear_len : ∀ d q (B : List Int), (sClear B d q).length = B.length := by
  intro d
  induction d with
  | zero => intro q B; rfl
  | succ d ih => intro q B; rw [sClear, ih, List.length_set]

theorem sClear_all : ∀ d q (B : List Int), AllB B → q + d ≤ 8 * B.length → AllB (sClear B d q) := by
  intro d
  induction d with
  | zero => intro q B h _; exact h
  | succ d ih =>
    intro q B h hq
    rw [sClear]
    have hb := allB_get h (show q / 8 < B.length by omega)
    have hc := clr_byte hb (show q % 8 < 8 by omega)
    exact ih (q + 1) _ (allB_set h ⟨hc.2.1, hc.2.2.1⟩) (by rw [List.length_set]; omega)

/-- Where in byte i the cleared bits lie. -/
def posIn (i q : Nat) : Nat := min (q - 8 * i) 8

theorem sClear_get : ∀ d q (B : List Int) (i : Nat), i < B.length → q + d ≤ 8 * B.length → (sClear B d q).getD i 0 = clrs (B.getD i 0) (posIn i q) (posIn i (q + d) - posIn i q) := by
  intro d
  induction d with
  | zero => intro q B i hi _; rw [Nat.add_zero, Nat.sub_self]; rfl
  | succ d ih =>
    intro q B i hi hq
    rw [sClear, ih (q + 1) _ i (by rw [List.length_set]; exact hi) (by rw [List.length_set]; omega)]
    have hg : (B.set (q / 8) (clr (B.getD (q / 8) 0) (q % 8))).getD i 0 = if q / 8 = i then clr (B.getD i 0) (q % 8) else B.getD i 0 := by
      rw [getD_lt 0 (by rw [List.length_set]; exact hi), List.getElem_set]
      by_cases e : q / 8 = i
      · rw [if_pos e, if_pos e, e]
      · rw [if_neg e, if_neg e, getD_lt 0 hi]
    rw [hg]
    by_cases e : q / 8 = i
    · rw [if_pos e]
      have e1 : posIn i q = q % 8 := by unfold posIn; omega
      have e2 : posIn i (q + 1) = q % 8 + 1 := by unfold posIn; omega
      have e3 : posIn i (q + (d + 1)) - posIn i q = (posIn i (q + 1 + d) - posIn i (q + 1)) + 1 := by unfold posIn; omega
      rw [e3, e1, e2]; rfl
    · rw [if_neg e]
      have e1 : posIn i (q + 1) = posIn i q := by unfold posIn; omega
      rw [e1, show q + 1 + d = q + (d + 1) by omega]

theorem sCut_l1 (B : List Int) (q : Int) (a b c d e : Int) (res : Int × Int × Int × Int × Int) : ∀ r : Nat, ∀ w : Int, 0 ≤ w → w ≤ 128 → r ≤ 8 → Ev (fun k => spec_Cut.l1 k B q (w / 2 ^ r) 0 a b c d e) res → Ev (fun k => spec_Cut.l1 k B q w (r : Int) a b c d e) res := by
  intro r
  induction r with
  | zero => intro w h0 h1 _ h; simpa using h
  | succ r ih =>
    intro w h0 h1 hr h
    refine Ev.next (ih (w / 2) (by omega) (by omega) (by omega) ?_) fun k => ?_
    · rw [Int.ediv_ediv_of_nonneg (by omega), ← Int.pow_succ']; exact h
    · simp only [spec_Cut.l1]
      rw [if_pos (by omega), Int.tdiv_eq_ediv_of_nonneg h0, wrap_id (x := w / 2) (by omega) (by omega), wrap_id (by omega) (by omega), show ((r + 1 : Nat) : Int) - 1 = (r : Int) by omega]

theorem sCut_loop (a b c d e : Int) (len : Nat) (hlen : ((len : Int) * 8 = bitsM a)) (hl : len ≤ 16) : ∀ m n, n + m = 8 * len → ∀ B : List Int, B.length = len → AllB B →
    Ev (fun k => spec_Cut.l0 k B (n : Int) a b c d e) ((addrOfM (sClear B m n)).1, (addrOfM (sClear B m n)).2.1, (addrOfM (sClear B m n)).2.2.1, (addrOfM (sClear B m n)).2.2.2.1, (addrOfM (sClear B m n)).2.2.2.2.1) := by
  have hbits : spec_l03Bits.f a b c d e = some (bitsM a) := by
    unfold spec_l03Bits.f bitsM; by_cases h : a = 4
    · rw [if_pos h, if_pos h]
    · rw [if_neg h, if_neg h]
  intro m
  induction m with
  | zero =>
    intro n hn B hB hb
    refine Ev.next (f := fun k => (spec_AddrOf.f k B).bind fun bt169 => some (bt169.1, bt169.2.1, bt169.2.2.1, bt169.2.2.2.1, bt169.2.2.2.2.1)) (Ev.bind (sAddrOf_ev B hb) (Ev.now _)) fun k => ?_
    simp only [spec_Cut.l0, hbits, Option.bind_some]
    rw [if_neg (by omega)]
  | succ m ih =>
    intro n hn B hB hb
    have hi : n / 8 < B.length := by omega
    have hg := allB_get hb hi
    have hc := clr_byte hg (show n % 8 < 8 by omega)
    have hnext := ih (n + 1) (by omega) (B.set (n / 8) (clr (B.getD (n / 8) 0) (n % 8))) (by rw [List.length_set]; exact hB) (allB_set hb ⟨hc.2.1, hc.2.2.1⟩)
    refine Ev.next (f := fun k => spec_Cut.l1 k B (n : Int) 128 ((n % 8 : Nat) : Int) a b c d e) ?_ fun k => ?_
    · refine sCut_l1 B n a b c d e _ (n % 8) 128 (by omega) (by omega) (by omega) ?_
      refine Ev.next hnext fun k => ?_
      simp only [spec_Cut.l1]
      rw [if_neg (by omega), Int.tdiv_eq_ediv_of_nonneg (by omega), wrap_id (x := (n : Int) / 8) (by omega) (by omega), if_pos (by omega), if_pos (by omega), if_neg (by omega),
        show (n : Int) / 8 = ((n / 8 : Nat) : Int) by omega, rd_nat, wrap_id (x := B.getD (n / 8) 0) (by omega) (by omega), Int.tdiv_eq_ediv_of_nonneg hg.1, Int.toNat_natCast, wrap_succ (by omega)]
      have hq0 : 0 ≤ B.getD (n / 8) 0 / (128 / 2 ^ (n % 8)) := Int.ediv_nonneg hg.1 (by omega)
      have hq1 : B.getD (n / 8) 0 / (128 / 2 ^ (n % 8)) ≤ B.getD (n / 8) 0 := Int.ediv_le_self _ hg.1
      rw [wrap_id (by omega) (by omega), Int.tmod_eq_emod_of_nonneg hq0]
      by_cases h1 : B.getD (n / 8) 0 / (128 / 2 ^ (n % 8)) % 2 = 1
      · have hc1 := hc.1
        rw [if_pos h1] at hc1
        rw [if_pos h1, hc1]
      · have hc1 := hc.1
        rw [if_neg h1] at hc1
        rw [if_neg h1, ← hc1]
        congr 1
        rw [getD_lt 0 hi, List.set_getElem_self]
    · simp only [spec_Cut.l0, hbits, Option.bind_some]
      rw [if_pos (by omega), Int.tmod_eq_emod_of_nonneg (by omega), show (n : Int) % 8 = ((n % 8 : Nat) : Int) by omega]
/-- What is left of a list of bytes. -/
def maskList (B : List Int) (p : Nat) : List Int := (List.range B.length).map fun (i : Nat) => maskTop (B.getD i 0) (posIn i p)
theorem mask_len (B : List Int) (p : Nat) : (maskList B p).length = B.length := by simp [maskList]
theorem mask_at (B : List Int) (p : Nat) {i : Nat} (hi : i < B.length) : (maskList B p).getD i 0 = maskTop (B.getD i 0) (posIn i p) := by
  rw [getD_lt 0 (by rw [mask_len]; exact hi)]; simp [maskList]
theorem mask_byte {b : Int} (h : 0 ≤ b ∧ b < 256) {r : Nat} (hr : r ≤ 8) : 0 ≤ maskTop b r ∧ maskTop b r < 256 ∧ Go.bits .and .u8 b ((shr .u16 65280 (r : Int)) % 256) = maskTop b r ∧ clrs b r (8 - r) = maskTop b r := by
  obtain ⟨f, rfl⟩ := byte_fin h
  have h1 := mask_tab f ⟨r, by omega⟩
  exact ⟨h1.1, h1.2, and_tab f ⟨r, by omega⟩, clr_tab f ⟨r, by omega⟩⟩
theorem mask_all {B : List Int} (h : AllB B) (p : Nat) : AllB (maskList B p) := by
  intro x hx
  unfold maskList at hx
  obtain ⟨i, hi, rfl⟩ := List.mem_map.1 hx
  have := mask_byte (allB_get h (List.mem_range.1 hi)) (show posIn i p ≤ 8 by unfold posIn; omega)
  exact ⟨this.1, this.2.1⟩
theorem clear_mask {B : List Int} (h : AllB B) {p : Nat} (hp : p ≤ 8 * B.length) : sClear B (8 * B.length - p) p = maskList B p := by
  apply List.ext_getElem
  · rw [sClear_len, mask_len]
  · intro i h1 h2
    rw [sClear_len] at h1
    have e1 : (sClear B (8 * B.length - p) p)[i] = (sClear B (8 * B.length - p) p).getD i 0 := (getD_lt 0 _).symm
    have e2 : (maskList B p)[i] = (maskList B p).getD i 0 := (getD_lt 0 _).symm
    rw [e1, e2, sClear_get _ _ _ i h1 (by omega), mask_at B p h1, show p + (8 * B.length - p) = 8 * B.length by omega, show posIn i (8 * B.length) = 8 by unfold posIn; omega]
    exact (mask_byte (allB_get h h1) (show posIn i p ≤ 8 by unfold posIn; omega)).2.2.2

def five (t : Int × Int × Int × Int × Int × Bool) : Int × Int × Int × Int × Int := (t.1, t.2.1, t.2.2.1, t.2.2.2.1, t.2.2.2.2.1)
def cutM (q a b c d p : Int) : Int × Int × Int × Int × Int := if (addrM q a b c d && decide (0 ≤ p ∧ p ≤ bitsM q)) = true then five (addrOfM (maskList (addrBytesM q a b c d) p.toNat)) else (0, 0, 0, 0, 0)

theorem addrBytes_all (q a b c d : Int) : AllB (addrBytesM q a b c d) := fun _ h => addrBytes_byte h

theorem sCut_ev (q a b c d p : Int) : Ev (fun k => spec_Cut.f k q a b c d p) (cutM q a b c d p) := by
  have hj : ∀ t : Bool, (t = false → addrM q a b c d = true ∧ 0 ≤ p ∧ p ≤ bitsM q) → Ev (fun k => spec_Cut.j0 k p t q a b c d) (if t = true then (0, 0, 0, 0, 0) else five (addrOfM (maskList (addrBytesM q a b c d) p.toNat))) := by
    intro t ht
    cases t with
    | true => exact Ev.next (f := fun _ => some (0, 0, 0, 0, 0)) (Ev.now _) fun k => by simp [spec_Cut.j0]
    | false =>
      obtain ⟨h1, h2, h3⟩ := ht rfl
      have hl := addrBytes_len h1
      have hb := addrBytes_all q a b c d
      have := sCut_loop q a b c d (addrBytesM q a b c d).length hl.1 (by omega) (8 * (addrBytesM q a b c d).length - p.toNat) p.toNat (by omega) _ rfl hb
      rw [clear_mask hb (by omega), show ((p.toNat : Nat) : Int) = p by omega] at this
      refine Ev.next this fun k => ?_
      simp only [spec_Cut.j0]
      rw [if_neg (by decide), sAddrBytes_eq]; rfl
  unfold spec_Cut.f cutM
  simp only [sAddrOk_eq, Option.bind_some]
  cases h : addrM q a b c d with
  | false => exact Ev.to (hj true (by simp)) (by simp)
  | true =>
    simp only [if_true, Bool.true_and]
    by_cases h0 : p < 0
    · simp only [if_pos h0]
      exact Ev.to (hj true (by simp)) (by rw [decide_eq_false (show ¬ (0 ≤ p ∧ p ≤ bitsM q) by omega)]; simp)
    · have hbits : spec_l03Bits.f q a b c d = some (bitsM q) := by
        unfold spec_l03Bits.f bitsM; by_cases h : q = 4
        · rw [if_pos h, if_pos h]
        · rw [if_neg h, if_neg h]
      simp only [if_neg h0, hbits, Option.bind_some]
      by_cases h2 : p > bitsM q
      · rw [decide_eq_true h2, decide_eq_false (show ¬ (0 ≤ p ∧ p ≤ bitsM q) by omega)]
        exact Ev.to (hj true (by simp)) (by simp)
      · rw [decide_eq_false h2, decide_eq_true (show 0 ≤ p ∧ p ≤ bitsM q by omega)]
        exact Ev.to (hj false (fun _ => ⟨h, by omega, by omega⟩)) (by simp)

theorem clip_eq (p : Int) (i : Nat) (h0 : 0 ≤ p) (h1 : p ≤ 128) (hi : i ≤ 16) : impl_Clip.f (wrap64 (p - wrap64 (8 * (i : Int)))) 0 8 = some ((posIn i p.toNat : Nat) : Int) := by
  unfold impl_Clip.f posIn
  rw [wrap_id (x := 8 * (i : Int)) (by omega) (by omega), wrap_id (by omega) (by omega)]
  by_cases h : p - 8 * (i : Int) < 0
  · rw [if_pos h]; congr 1; omega
  · rw [if_neg h]
    by_cases h2 : p - 8 * (i : Int) > 8
    · rw [if_pos h2]; congr 1; omega
    · rw [if_neg h2]; congr 1; omega

theorem iCut_loop (p : Int) (h0 : 0 ≤ p) (h1 : p ≤ 128) (B : List Int) (hl : B.length ≤ 16) (hb : AllB B) : ∀ n, n ≤ B.length → ∀ acc : List Int, acc.length = B.length → acc.take n = (maskList B p.toNat).take n → acc.drop n = B.drop n →
    Ev (fun k => impl_Cut.l0 k p acc (B.length : Int) (n : Int)) (five (addrOfM (maskList B p.toNat))) := by
  have hml := mask_len B p.toNat
  refine down ?_ ?_
  · intro acc ha ht _
    have e : acc = maskList B p.toNat := by rw [List.take_of_length_le (by omega), List.take_of_length_le (by omega)] at ht; exact ht
    subst e
    refine Ev.next (f := fun k => (impl_AddrOf.f k (maskList B p.toNat)).bind fun bt295 => some (bt295.1, bt295.2.1, bt295.2.2.1, bt295.2.2.2.1, bt295.2.2.2.2.1)) (Ev.bind (iAddrOf_ev _ (mask_all hb _)) (Ev.now _)) fun k => ?_
    simp only [impl_Cut.l0]; rw [if_neg (by omega)]
  · intro n hn ih acc ha ht hd
    have hr : posIn n p.toNat ≤ 8 := by unfold posIn; omega
    have hg : acc.getD n 0 = B.getD n 0 := by
      have : (acc.drop n)[0]'(by rw [List.length_drop]; omega) = (B.drop n)[0]'(by rw [List.length_drop]; omega) := by simp only [hd]
      rw [getD_lt 0 (by omega : n < acc.length), getD_lt 0 hn]
      simpa using this
    have hm := mask_byte (allB_get hb hn) hr
    refine Ev.next (ih (acc.set n (maskTop (B.getD n 0) (posIn n p.toNat))) (by simpa using ha) ?_ ?_) fun k => ?_
    · have hx : (maskList B p.toNat)[n]'(by omega) = maskTop (B.getD n 0) (posIn n p.toNat) := by rw [← mask_at B p.toNat hn]; exact (getD_lt 0 _).symm
      rw [List.take_set, List.take_add_one, List.take_add_one, ht, List.getElem?_eq_getElem (by omega), List.getElem?_eq_getElem (by omega)]
      have hl' : ((maskList B p.toNat).take n).length = n := by rw [List.length_take]; omega
      simp only [Option.toList_some]
      rw [List.set_append_right _ _ (by omega), hl', hx]
      simp
    · rw [List.drop_set_of_lt (by omega)]
      have := congrArg (List.drop 1) hd
      simpa [List.drop_drop] using this
    · simp only [impl_Cut.l0]
      rw [if_pos (by omega), clip_eq p n h0 h1 (by omega)]
      simp only [Option.bind_some]
      rw [if_pos (by omega), if_pos (by omega), if_pos (by omega), rd_nat, hg, hm.2.2.1, wrap_succ (by omega), Int.toNat_natCast]

theorem iCut_ev (q a b c d p : Int) : Ev (fun k => impl_Cut.f k q a b c d p) (cutM q a b c d p) := by
  have hj : ∀ t : Bool, (t = false → addrM q a b c d = true ∧ 0 ≤ p ∧ p ≤ bitsM q) → Ev (fun k => impl_Cut.j0 k p t q a b c d) (if t = true then (0, 0, 0, 0, 0) else five (addrOfM (maskList (addrBytesM q a b c d) p.toNat))) := by
    intro t ht
    cases t with
    | true => exact Ev.next (f := fun _ => some (0, 0, 0, 0, 0)) (Ev.now _) fun k => by simp [impl_Cut.j0]
    | false =>
      obtain ⟨h1, h2, h3⟩ := ht rfl
      have hl := addrBytes_len h1
      have hb := addrBytes_all q a b c d
      have h128 : bitsM q ≤ 128 := by unfold bitsM; split <;> omega
      have := iCut_loop p h2 (by omega) (addrBytesM q a b c d) (by omega) hb 0 (by omega) _ rfl rfl rfl
      refine Ev.next (Ev.bind (iAddrBytes_ev q a b c d) (f := fun k t289 => impl_Cut.l0 k p t289 (t289.length : Int) 0) this) fun k => ?_
      simp only [impl_Cut.j0]
      rw [if_neg (by decide)]
  unfold impl_Cut.f cutM
  simp only [iAddrOk_eq, Option.bind_some]
  cases h : addrM q a b c d with
  | false => exact Ev.to (hj true (by simp)) (by simp)
  | true =>
    have hbits : impl_bitsOf.f q a b c d = some (bitsM q) := by
      unfold impl_bitsOf.f bitsM; by_cases h : q = 4
      · rw [if_pos h, if_pos h]
      · rw [if_neg h, if_neg h]
    simp only [if_true, Bool.true_and, hbits, within_eq, Option.bind_some]
    by_cases h2 : 0 ≤ p ∧ p ≤ bitsM q
    · rw [decide_eq_true h2]
      exact Ev.to (hj false (fun _ => ⟨h, h2.1, h2.2⟩)) (by simp)
    · rw [decide_eq_false h2]
      exact Ev.to (hj true (by simp)) (by simp)

def anyM (q a b c d p : Int) : Bool := (q == 0 && (a == 0 && (b == 0 && (c == 0 && (d == 0))))) && (p == 0)
def sameM5 (t : Int × Int × Int × Int × Int) (q a b c d : Int) : Bool := t.1 == q && (t.2.1 == a && (t.2.2.1 == b && (t.2.2.2.1 == c && (t.2.2.2.2 == d))))
def prefixOkM (q a b c d p : Int) : Bool := if anyM q a b c d p = true then true else if addrM q a b c d = true then (if 0 ≤ p ∧ p ≤ bitsM q then sameM5 (cutM q a b c d p) q a b c d else false) else false
def prefixBytesM (q a b c d p : Int) : List Int := if prefixOkM q a b c d p = true then (if anyM q a b c d p = true then [0] else [q % 256] ++ addrBytesM q a b c d ++ [p % 256]) else []

theorem sPrefixOk_ev (q a b c d p : Int) : Ev (fun k => spec_PrefixOk.f k q a b c d p) (prefixOkM q a b c d p) := by
  have hbits : spec_l03Bits.f q a b c d = some (bitsM q) := by
    unfold spec_l03Bits.f bitsM; by_cases h : q = 4
    · rw [if_pos h, if_pos h]
    · rw [if_neg h, if_neg h]
  have ha : spec_l03Any.f q a b c d p = some (anyM q a b c d p) := rfl
  unfold spec_PrefixOk.f prefixOkM
  simp only [ha, sAddrOk_eq, hbits, Option.bind_some]
  cases anyM q a b c d p with
  | true => exact Ev.now' fun k => by simp
  | false =>
    simp only [if_neg (show ¬ (false = true) by decide)]
    cases addrM q a b c d with
    | false => exact Ev.now' fun k => by simp
    | true =>
      simp only [if_true]
      by_cases h0 : p ≥ 0
      · by_cases h1 : p ≤ bitsM q
        · simp only [if_pos h0, if_pos h1, if_pos (show 0 ≤ p ∧ p ≤ bitsM q from ⟨h0, h1⟩)]
          exact Ev.bind (sCut_ev q a b c d p) (f := fun _ bt => some (bt.1 == q && (bt.2.1 == a && (bt.2.2.1 == b && (bt.2.2.2.1 == c && (bt.2.2.2.2 == d)))))) (Ev.now _)
        · simp only [if_pos h0, if_neg h1, if_neg (show ¬ (0 ≤ p ∧ p ≤ bitsM q) by omega)]; exact Ev.now _
      · simp only [if_neg h0, if_neg (show ¬ (0 ≤ p ∧ p ≤ bitsM q) by omega)]; exact Ev.now _

theorem iPrefixOk_ev (q a b c d p : Int) : Ev (fun k => impl_PrefixOk.f k q a b c d p) (prefixOkM q a b c d p) := by
  have hbits : impl_bitsOf.f q a b c d = some (bitsM q) := by
    unfold impl_bitsOf.f bitsM; by_cases h : q = 4
    · rw [if_pos h, if_pos h]
    · rw [if_neg h, if_neg h]
  have ha : impl_isAny.f q a b c d p = some (anyM q a b c d p) := rfl
  unfold impl_PrefixOk.f prefixOkM
  simp only [ha, iAddrOk_eq, hbits, within_eq, Option.bind_some]
  cases anyM q a b c d p with
  | true => exact Ev.now' fun k => by simp
  | false =>
    simp only [if_neg (show ¬ (false = true) by decide)]
    cases addrM q a b c d with
    | false => exact Ev.now' fun k => by simp
    | true =>
      simp only [if_true]
      by_cases h0 : 0 ≤ p ∧ p ≤ bitsM q
      · simp only [decide_eq_true h0, if_true, if_pos h0]
        exact Ev.bind (iCut_ev q a b c d p) (f := fun _ bt => some (bt.1 == q && (bt.2.1 == a && (bt.2.2.1 == b && (bt.2.2.2.1 == c && (bt.2.2.2.2 == d)))))) (Ev.now _)
      · simp only [decide_eq_false h0, if_neg h0]; exact Ev.now' fun k => by simp


def hasM (q a b c d p : Int) (q' a' b' c' d' : Int) : Bool := anyM q a b c d p || (decide (q = q') && sameM5 (cutM q' a' b' c' d' p) q a b c d)
def prefHasM (q a b c d p : Int) (q' a' b' c' d' : Int) : Bool := prefixOkM q a b c d p && (addrM q' a' b' c' d' && hasM q a b c d p q' a' b' c' d')
theorem iHas_ev (q a b c d p q' a' b' c' d' : Int) : Ev (fun k => impl_Prefix_has.f k q a b c d p q' a' b' c' d') (hasM q a b c d p q' a' b' c' d') := by
  have ha : impl_isAny.f q a b c d p = some (anyM q a b c d p) := rfl
  unfold impl_Prefix_has.f hasM
  simp only [ha, Option.bind_some]
  cases anyM q a b c d p with
  | true => exact Ev.now' fun k => by simp
  | false =>
    simp only [if_neg (show ¬ (false = true) by decide)]
    by_cases h : q' = q
    · subst h
      simp only [if_true]
      exact Ev.to (Ev.bind (iCut_ev q' a' b' c' d' p) (f := fun _ bt => some (bt.1 == q' && (bt.2.1 == a && (bt.2.2.1 == b && (bt.2.2.2.1 == c && (bt.2.2.2.2 == d)))))) (Ev.now _)) (by simp [sameM5])
    · simp only [if_neg h]
      exact Ev.to (Ev.now false) (by rw [decide_eq_false (fun e => h e.symm)]; rfl)
theorem sPrefHas_ev (q a b c d p q' a' b' c' d' : Int) : Ev (fun k => spec_PrefixHas.f k q a b c d p q' a' b' c' d') (prefHasM q a b c d p q' a' b' c' d') := by
  have ha : spec_l03Any.f q a b c d p = some (anyM q a b c d p) := rfl
  have hj : ∀ t : Bool, Ev (fun k => spec_PrefixHas.j0 k t q a b c d p q' a' b' c' d') (!t && hasM q a b c d p q' a' b' c' d') := by
    intro t
    cases t with
    | true => exact Ev.next (f := fun _ => some false) (Ev.now _) fun k => by simp [spec_PrefixHas.j0]
    | false =>
      unfold hasM
      cases hA : anyM q a b c d p with
      | true => exact Ev.next (f := fun _ => some true) (Ev.now _) fun k => by simp only [spec_PrefixHas.j0]; rw [if_neg (by decide), ha, hA]; rfl
      | false =>
        by_cases h : q = q'
        · subst h
          refine Ev.to (Ev.next (f := fun k => (spec_Cut.f k q a' b' c' d' p).bind fun bt => some (bt.1 == q && (bt.2.1 == a && (bt.2.2.1 == b && (bt.2.2.2.1 == c && (bt.2.2.2.2 == d)))))) (Ev.bind (sCut_ev q a' b' c' d' p) (Ev.now _)) fun k => ?_) (by simp [sameM5])
          simp only [spec_PrefixHas.j0]; rw [if_neg (by decide), ha, hA, Option.bind_some, if_neg (by decide), if_pos trivial]
        · refine Ev.to (Ev.next (f := fun _ => some false) (Ev.now _) fun k => ?_) (by rw [decide_eq_false h]; rfl)
          simp only [spec_PrefixHas.j0]; rw [if_neg (by decide), ha, hA, Option.bind_some, if_neg (by decide), if_neg h]
  unfold spec_PrefixHas.f prefHasM
  refine Ev.bind (sPrefixOk_ev q a b c d p) ?_
  cases prefixOkM q a b c d p with
  | false => simp only [if_neg (show ¬ (false = true) by decide)]; exact Ev.to (hj true) (by simp)
  | true =>
    simp only [if_true, sAddrOk_eq, Option.bind_some]
    exact Ev.to (hj _) (by simp)

/-- Where a cursor stands: so many numbers are drawn at most. -/
def Dr (n : Nat) (x s : Int) : Prop := 0 ≤ x ∧ x ≤ n ∧ 0 ≤ s ∧ s ≤ 65521
theorem Dr.mono {n m : Nat} {x s : Int} (h : Dr n x s) (hm : n ≤ m) : Dr m x s := ⟨h.1, by have := h.2.1; omega, h.2.2⟩
theorem byte_wf {x : Int} (h : (Lit.int .u8 x).wf = true) : 0 ≤ x ∧ x < 256 := by
  have e1 : IntKind.u8.min = 0 := by decide
  have e2 : IntKind.u8.max = 255 := by decide
  simp [Lit.wf, IntKind.wrap, IntKind.signed, IntKind.bits, e1, e2] at h
  omega
section
variable {l : List Int} (hl : AllB l) (hz : l.length ≤ 1048576) {n : Nat} {x s : Int} (h : Dr n x s) (hn : n ≤ 1000000)
include hl hz h hn
theorem pick_ok (a : Int) : ∃ t : Int × Int × Int, spec_l01Cur_pick.f l x s a = some t ∧ 0 ≤ t.1 ∧ (1 ≤ a → t.1 < a) ∧ Dr (n + 1) t.2.1 t.2.2 := by
  obtain ⟨h1, h2, h3, h4⟩ := h
  have hx : wrap64 (x + 1) = x + 1 := wrap_id (by omega) (by omega)
  have e1 : wrap64 (s * 1103) = s * 1103 := wrap_id (by omega) (by omega)
  have e2 : wrap64 (s * 1103 + 12345) = s * 1103 + 12345 := wrap_id (by omega) (by omega)
  have e3 : Int.tmod (s * 1103 + 12345) 65521 = (s * 1103 + 12345) % 65521 := Int.tmod_eq_emod_of_nonneg (by omega)
  have e4 : 0 ≤ (s * 1103 + 12345) % 65521 ∧ (s * 1103 + 12345) % 65521 < 65521 := by omega
  unfold spec_l01Cur_pick.f
  by_cases ha : a < 2
  · rw [if_pos ha]; exact ⟨_, rfl, by simp, by intro; simp; omega, h1, by simp; omega, h3, h4⟩
  · rw [if_neg ha, e1, e2, e3, hx]
    have md : ∀ v : Int, 0 ≤ v → Int.tmod v a = v % a := fun v hv => Int.tmod_eq_emod_of_nonneg hv
    by_cases c1 : x < (l.length : Int)
    · obtain ⟨m, rfl⟩ : ∃ m : Nat, x = (m : Int) := ⟨x.toNat, by omega⟩
      have hb := allB_get hl (show m < l.length by omega)
      rw [if_pos c1, if_pos h1, if_neg (show ¬ (a = 0) by omega), rd_nat, wrap_id (by omega) (by omega), md _ hb.1]
      exact ⟨_, rfl, Int.emod_nonneg _ (by omega), fun _ => Int.emod_lt_of_pos _ (by omega), by simp; omega, by simp; omega, h3, h4⟩
    · rw [if_neg c1]
      by_cases c2 : (l.length : Int) > 0
      · have e5 : Int.tmod x (l.length : Int) = x % (l.length : Int) := Int.tmod_eq_emod_of_nonneg h1
        have e6 := Int.emod_nonneg x (show (l.length : Int) ≠ 0 by omega)
        have e7 := Int.emod_lt_of_pos x c2
        obtain ⟨m, hm⟩ : ∃ m : Nat, x % (l.length : Int) = (m : Int) := ⟨(x % (l.length : Int)).toNat, by omega⟩
        have hb := allB_get hl (show m < l.length by omega)
        rw [if_pos c2, if_neg (show ¬ ((l.length : Int) = 0) by omega), e5, if_pos e6, if_pos e7, if_neg (show ¬ (a = 0) by omega), hm, rd_nat, Int.tdiv_eq_ediv_of_nonneg e4.1, wrap_id (x := (s * 1103 + 12345) % 65521 / 7) (by omega) (by omega), wrap_id (x := l.getD m 0) (by omega) (by omega), wrap_id (by omega) (by omega), md _ (by omega)]
        exact ⟨_, rfl, Int.emod_nonneg _ (by omega), fun _ => Int.emod_lt_of_pos _ (by omega), by simp; omega, by simp; omega, e4.1, by simp; omega⟩
      · rw [if_neg c2, if_neg (show ¬ (a = 0) by omega), md _ (Int.le_refl 0)]
        exact ⟨_, rfl, by simp, by simp; omega, by simp; omega, by simp; omega, e4.1, by simp; omega⟩
end
section
variable {l : List Int} (hl : AllB l) (hz : l.length ≤ 1048576) {n : Nat} {x s : Int} (h : Dr n x s) (hn : n ≤ 990000)
include hl hz h hn
theorem once_ok (a : Int) : ∃ t : Bool × Int × Int, spec_l01Cur_once.f l x s a = some t ∧ Dr (n + 1) t.2.1 t.2.2 := by
  obtain ⟨t, e, h0, h1, hd⟩ := pick_ok hl hz h (by omega) a
  unfold spec_l01Cur_once.f
  simp only [Option.bind_some, e]
  exact ⟨_, rfl, hd⟩
theorem raw_ok : ∃ t : Int × Int × Int, spec_l01Cur_raw.f l x s = some t ∧ Dr (n + 2) t.2.1 t.2.2 := by
  obtain ⟨t, e, h0, h1, hd⟩ := pick_ok hl hz h (by omega) 8
  unfold spec_l01Cur_raw.f
  simp only [Option.bind_some, e]
  by_cases c0 : t.1 = 0
  · obtain ⟨u, eu, _, _, hu⟩ := pick_ok hl hz hd (by omega) 256
    rw [if_pos c0, eu]
    exact ⟨_, rfl, hu⟩
  · rw [if_neg c0]
    by_cases c1 : t.1 = 1
    · obtain ⟨u, eu, u0, u1, hu⟩ := pick_ok hl hz hd (by omega) 8
      have := u1 (by omega)
      rw [if_pos c1, eu]
      simp only [Option.bind_some]
      rw [if_pos u0, if_pos (by simpa using this)]
      exact ⟨_, rfl, hu⟩
    · obtain ⟨u, eu, _, _, hu⟩ := pick_ok hl hz hd (by omega) 14
      rw [if_neg c1, eu]
      exact ⟨_, rfl, hu⟩
theorem wide_ok (a : Int) (ha : a ≠ 0) : ∃ t : Int × Int × Int, spec_l01Cur_wide.f l x s a = some t ∧ Dr (n + 3) t.2.1 t.2.2 := by
  obtain ⟨t, e, _, _, ht⟩ := pick_ok hl hz h (by omega) 256
  obtain ⟨u, eu, _, _, hu⟩ := pick_ok hl hz ht (by omega) 256
  obtain ⟨v, ev, _, _, hv⟩ := pick_ok hl hz hu (by omega) 256
  unfold spec_l01Cur_wide.f
  simp only [Option.bind_some, e, eu, ev]
  rw [if_neg ha]
  exact ⟨_, rfl, hv⟩
end

section
variable {l : List Int} (hl : AllB l) (hz : l.length ≤ 1048576) {n : Nat} {x s : Int} (h : Dr n x s) (hn : n ≤ 900000)
include hl hz h hn
theorem addr_ok (a : Int) : ∃ t : Int × Int × Int × Int × Int × Int × Int, spec_l01Cur_addr.f l x s a = some t ∧ Dr (n + 12) t.2.2.2.2.2.1 t.2.2.2.2.2.2 := by
  unfold spec_l01Cur_addr.f
  by_cases c : a = 4
  · obtain ⟨t1, e1, _, _, d1⟩ := pick_ok hl hz h (by omega) 4
    obtain ⟨t2, e2, _, _, d2⟩ := pick_ok hl hz d1 (by omega) 3
    obtain ⟨t3, e3, _, _, d3⟩ := pick_ok hl hz d2 (by omega) 256
    obtain ⟨t4, e4, _, _, d4⟩ := pick_ok hl hz d3 (by omega) 8
    obtain ⟨t5, e5, d5⟩ := wide_ok hl hz d4 (by omega) 16777216 (by omega)
    obtain ⟨t6, e6, _, _, d6⟩ := pick_ok hl hz d5 (by omega) 256
    obtain ⟨t7, e7, p7, q7, d7⟩ := pick_ok hl hz d6 (by omega) 5
    have := q7 (by omega)
    simp only [if_pos c, Option.bind_some, e1, e2, e3, e4, e5, e6, e7]
    rw [if_pos p7, if_pos (by simpa using this)]
    exact ⟨_, rfl, d7.mono (by omega)⟩
  · obtain ⟨t1, e1, d1⟩ := wide_ok hl hz h (by omega) 16777216 (by omega)
    obtain ⟨t2, e2, p2, q2, d2⟩ := pick_ok hl hz d1 (by omega) 3
    obtain ⟨t3, e3, _, _, d3⟩ := pick_ok hl hz d2 (by omega) 2
    obtain ⟨t4, e4, _, _, d4⟩ := pick_ok hl hz d3 (by omega) 3
    obtain ⟨t5, e5, d5⟩ := wide_ok hl hz d4 (by omega) 16777216 (by omega)
    obtain ⟨t6, e6, _, _, d6⟩ := pick_ok hl hz d5 (by omega) 8
    obtain ⟨t7, e7, _, _, d7⟩ := pick_ok hl hz d6 (by omega) 3
    obtain ⟨t8, e8, p8, q8, d8⟩ := pick_ok hl hz d7 (by omega) 2
    have := q2 (by omega)
    have := q8 (by omega)
    simp only [if_neg c, Option.bind_some, e1, e2]
    rw [if_pos p2, if_pos (by simpa using ‹t2.1 < 3›)]
    simp only [Option.bind_some, e3, e4, e5, e6, e7, e8]
    rw [if_pos p8, if_pos (by simpa using ‹t8.1 < 2›)]
    exact ⟨_, rfl, d8.mono (by omega)⟩
end
section
variable {l : List Int} (hl : AllB l) (hz : l.length ≤ 1048576) {n : Nat} {x s : Int} (h : Dr n x s) (hn : n ≤ 890000)
include hl hz h hn
theorem prefix_ok (a : Int) : ∃ t : Int × Int × Int × Int × Int × Int × Int × Int, Ev (fun k => spec_l01Cur_prefix.f k l x s a) t ∧ Dr (n + 15) t.2.2.2.2.2.2.1 t.2.2.2.2.2.2.2 := by
  obtain ⟨t1, e1, d1⟩ := once_ok hl hz h (by omega) 5
  unfold spec_l01Cur_prefix.f
  simp only [Option.bind_some, e1]
  by_cases c : t1.1 = true
  · simp only [if_pos c]; exact ⟨_, Ev.now _, d1.mono (by omega)⟩
  · obtain ⟨t2, e2, d2⟩ := addr_ok hl hz d1 (by omega) a
    obtain ⟨t3, e3, _, _, d3⟩ := pick_ok hl hz d2 (by omega) 129
    obtain ⟨t4, e4, p4, q4, d4⟩ := pick_ok hl hz d3 (by omega) 13
    have hq := q4 (by omega)
    have hbits : ∃ b, spec_l03Bits.f t2.1 t2.2.1 t2.2.2.1 t2.2.2.2.1 t2.2.2.2.2.1 = some b := by
      unfold spec_l03Bits.f; by_cases h : t2.1 = 4
      · rw [if_pos h]; exact ⟨_, rfl⟩
      · rw [if_neg h]; exact ⟨_, rfl⟩
    obtain ⟨b, hb⟩ := hbits
    simp only [if_neg c, e2, e3, e4, hb, Option.bind_some]
    simp only [if_pos p4, if_pos (show t4.1 < (([8, 16, 24, 28, 30, 31, 32, 64, 96, 0, 120, 128, t3.1] : List Int).length : Int) by simpa using hq)]
    exact ⟨_, Ev.bind (sCut_ev _ _ _ _ _ _) (Ev.now _), d4.mono (by omega)⟩
end

section
variable {l : List Int} (hl : AllB l) (hz : l.length ≤ 1048576) {n : Nat} {x s : Int} (h : Dr n x s) (hn : n ≤ 990000)
include hl hz h hn
theorem kind_ok : ∃ t : Int × Int × Int, spec_l01Cur_kind.f l x s = some t ∧ Dr (n + 1) t.2.1 t.2.2 := by
  obtain ⟨t, e, h0, h1, hd⟩ := pick_ok hl hz h (by omega) 3
  have := h1 (by omega)
  unfold spec_l01Cur_kind.f
  simp only [Option.bind_some, e]
  rw [if_pos h0, if_pos (by simpa using this)]
  exact ⟨_, rfl, hd⟩
end
section
variable {l : List Int} (hl : AllB l) (hz : l.length ≤ 1048576) {n : Nat} {x s : Int} (h : Dr n x s) (hn : n ≤ 890000)
include hl hz h hn
theorem badAddr_ok : ∃ t : Int × Int × Int × Int × Int × Int × Int, spec_l01Cur_badAddr.f l x s = some t ∧ Dr (n + 16) t.2.2.2.2.2.1 t.2.2.2.2.2.2 := by
  obtain ⟨t1, e1, d1⟩ := kind_ok hl hz h (by omega)
  obtain ⟨t2, e2, d2⟩ := addr_ok hl hz d1 (by omega) t1.1
  obtain ⟨t3, e3, _, _, d3⟩ := pick_ok hl hz d2 (by omega) 6
  obtain ⟨t4, e4, d4⟩ := raw_ok hl hz d3 (by omega)
  unfold spec_l01Cur_badAddr.f
  simp only [Option.bind_some, e1, e2, e3, e4]
  by_cases c0 : t3.1 = 0
  · rw [if_pos c0]; exact ⟨_, rfl, d4.mono (by omega)⟩
  · rw [if_neg c0]
    by_cases c1 : t3.1 = 1
    · rw [if_pos c1]; exact ⟨_, rfl, d4.mono (by omega)⟩
    · rw [if_neg c1]
      by_cases c2 : t3.1 = 2
      · rw [if_pos c2]; exact ⟨_, rfl, d4.mono (by omega)⟩
      · rw [if_neg c2]; exact ⟨_, rfl, d3.mono (by omega)⟩
end
section
variable {l : List Int} (hl : AllB l) (hz : l.length ≤ 1048576) {n : Nat} {x s : Int} (h : Dr n x s) (hn : n ≤ 880000)
include hl hz h hn
theorem badPrefix_ok : ∃ t : Int × Int × Int × Int × Int × Int × Int × Int, Ev (fun k => spec_l01Cur_badPrefix.f k l x s) t ∧ Dr (n + 33) t.2.2.2.2.2.2.1 t.2.2.2.2.2.2.2 := by
  obtain ⟨t1, e1, d1⟩ := kind_ok hl hz h (by omega)
  obtain ⟨t2, e2, d2⟩ := prefix_ok hl hz d1 (by omega) t1.1
  obtain ⟨t3, e3, _, _, d3⟩ := pick_ok hl hz d2 (by omega) 6
  obtain ⟨t4, e4, d4⟩ := raw_ok hl hz d3 (by omega)
  obtain ⟨t5, e5, d5⟩ := badAddr_ok hl hz d3 (by omega)
  obtain ⟨t6, e6, _, _, d6⟩ := pick_ok hl hz d3 (by omega) 3
  unfold spec_l01Cur_badPrefix.f
  simp only [Option.bind_some, e1]
  have mk : ∀ (r : Int × Int × Int × Int × Int × Int × Int × Int), (∀ k : Nat, (spec_l01Cur_pick.f l t2.2.2.2.2.2.2.1 t2.2.2.2.2.2.2.2 6).bind (fun bt339 => (if bt339.1 = 0 then ((spec_l01Cur_raw.f l bt339.2.1 bt339.2.2).bind fun bt342 => (some (t2.1, t2.2.1, t2.2.2.1, t2.2.2.2.1, t2.2.2.2.2.1, bt342.1, bt342.2.1, bt342.2.2))) else (if bt339.1 = 1 then ((spec_l01Cur_badAddr.f l bt339.2.1 bt339.2.2).bind fun bt345 => (some (bt345.1, bt345.2.1, bt345.2.2.1, bt345.2.2.2.1, bt345.2.2.2.2.1, t2.2.2.2.2.2.1, bt345.2.2.2.2.2.1, bt345.2.2.2.2.2.2))) else (if bt339.1 = 2 then ((spec_l01Cur_pick.f l bt339.2.1 bt339.2.2 3).bind fun bt352 => (some (t2.1, t2.2.1, t2.2.2.1, t2.2.2.2.1, t2.2.2.2.2.1, mx 0 (wrap64 (t2.2.2.2.2.2.1 - bt352.1)), bt352.2.1, bt352.2.2))) else (some (t2.1, t2.2.1, t2.2.2.1, t2.2.2.2.1, t2.2.2.2.2.1, t2.2.2.2.2.2.1, bt339.2.1, bt339.2.2)))))) = some r) → Ev (fun k => (spec_l01Cur_prefix.f k l t1.2.1 t1.2.2 t1.1).bind fun bt330 => ((spec_l01Cur_pick.f l bt330.2.2.2.2.2.2.1 bt330.2.2.2.2.2.2.2 6).bind fun bt339 => (if bt339.1 = 0 then ((spec_l01Cur_raw.f l bt339.2.1 bt339.2.2).bind fun bt342 => (some (bt330.1, bt330.2.1, bt330.2.2.1, bt330.2.2.2.1, bt330.2.2.2.2.1, bt342.1, bt342.2.1, bt342.2.2))) else (if bt339.1 = 1 then ((spec_l01Cur_badAddr.f l bt339.2.1 bt339.2.2).bind fun bt345 => (some (bt345.1, bt345.2.1, bt345.2.2.1, bt345.2.2.2.1, bt345.2.2.2.2.1, bt330.2.2.2.2.2.1, bt345.2.2.2.2.2.1, bt345.2.2.2.2.2.2))) else (if bt339.1 = 2 then ((spec_l01Cur_pick.f l bt339.2.1 bt339.2.2 3).bind fun bt352 => (some (bt330.1, bt330.2.1, bt330.2.2.1, bt330.2.2.2.1, bt330.2.2.2.2.1, mx 0 (wrap64 (bt330.2.2.2.2.2.1 - bt352.1)), bt352.2.1, bt352.2.2))) else (some (bt330.1, bt330.2.1, bt330.2.2.1, bt330.2.2.2.1, bt330.2.2.2.2.1, bt330.2.2.2.2.2.1, bt339.2.1, bt339.2.2))))))) r := fun r hr => Ev.bind e2 (Ev.now' hr)
  by_cases c0 : t3.1 = 0
  · exact ⟨_, mk _ (fun _ => by rw [e3, Option.bind_some, if_pos c0, e4]; rfl), d4.mono (m := n + 33) (by omega)⟩
  · by_cases c1 : t3.1 = 1
    · exact ⟨_, mk _ (fun _ => by rw [e3, Option.bind_some, if_neg c0, if_pos c1, e5]; rfl), d5.mono (m := n + 33) (by omega)⟩
    · by_cases c2 : t3.1 = 2
      · exact ⟨_, mk _ (fun _ => by rw [e3, Option.bind_some, if_neg c0, if_neg c1, if_pos c2, e6]; rfl), d6.mono (m := n + 33) (by omega)⟩
      · exact ⟨_, mk _ (fun _ => by rw [e3, Option.bind_some, if_neg c0, if_neg c1, if_neg c2]), d3.mono (m := n + 33) (by omega)⟩
end

/-- What is computed, and what is known of it. -/
def G {α : Type} (f : Nat → Option α) (P : α → Prop) : Prop := ∃ t, Ev f t ∧ P t
theorem G.bind {α β : Type} {f : Nat → Option α} {h : Nat → α → Option β} {P : α → Prop} {Q : β → Prop} (hf : G f P) (hh : ∀ t, P t → G (fun k => h k t) Q) : G (fun k => (f k).bind (h k)) Q := by
  obtain ⟨t, ht, hP⟩ := hf
  obtain ⟨u, hu, hQ⟩ := hh t hP
  exact ⟨u, Ev.bind ht hu, hQ⟩
theorem G.now {α : Type} {t : α} {P : α → Prop} (h : P t) : G (fun _ => some t) P := ⟨t, Ev.now t, h⟩
theorem G.of {α : Type} {f : Option α} {P : α → Prop} (h : ∃ t, f = some t ∧ P t) : G (fun _ => f) P := by
  obtain ⟨t, rfl, hP⟩ := h
  exact G.now hP
theorem G.next {α : Type} {g f : Nat → Option α} {P : α → Prop} (h : G f P) (e : ∀ k, g (k + 1) = f k) : G g P := by
  obtain ⟨t, ht, hP⟩ := h
  exact ⟨t, Ev.next ht e, hP⟩
theorem G.ev {α : Type} {f : Nat → Option α} {t : α} {P : α → Prop} (h : Ev f t) (hP : P t) : G f P := ⟨t, h, hP⟩

theorem G.nxt {α : Type} {g f : Nat → Option α} {P : α → Prop} (e : ∀ k, g (k + 1) = f k) (h : G f P) : G g P := G.next h e
theorem G.up {α : Type} {f : Nat → Option α} {P Q : α → Prop} (h : G f P) (hq : ∀ t, P t → Q t) : G f Q := by
  obtain ⟨t, ht, hP⟩ := h
  exact ⟨t, ht, hq t hP⟩
section
variable {l : List Int} (hl : AllB l) (hz : l.length ≤ 1048576)
include hl hz
theorem pick_G {n : Nat} {x s : Int} (h : Dr n x s) (hn : n ≤ 900000) (a : Int) : G (fun _ => spec_l01Cur_pick.f l x s a) (fun t => 0 ≤ t.1 ∧ (1 ≤ a → t.1 < a) ∧ Dr (n + 1) t.2.1 t.2.2) := G.of (pick_ok hl hz h (by omega) a)
theorem once_G {n : Nat} {x s : Int} (h : Dr n x s) (hn : n ≤ 900000) (a : Int) : G (fun _ => spec_l01Cur_once.f l x s a) (fun t => Dr (n + 1) t.2.1 t.2.2) := G.of (once_ok hl hz h (by omega) a)
theorem raw_G {n : Nat} {x s : Int} (h : Dr n x s) (hn : n ≤ 900000) : G (fun _ => spec_l01Cur_raw.f l x s) (fun t => Dr (n + 2) t.2.1 t.2.2) := G.of (raw_ok hl hz h (by omega))
theorem wide_G {n : Nat} {x s : Int} (h : Dr n x s) (hn : n ≤ 900000) (a : Int) (ha : a ≠ 0) : G (fun _ => spec_l01Cur_wide.f l x s a) (fun t => Dr (n + 3) t.2.1 t.2.2) := G.of (wide_ok hl hz h (by omega) a ha)
theorem addr_G {n : Nat} {x s : Int} (h : Dr n x s) (hn : n ≤ 880000) (a : Int) : G (fun _ => spec_l01Cur_addr.f l x s a) (fun t => Dr (n + 12) t.2.2.2.2.2.1 t.2.2.2.2.2.2) := G.of (addr_ok hl hz h (by omega) a)
theorem prefix_G {n : Nat} {x s : Int} (h : Dr n x s) (hn : n ≤ 880000) (a : Int) : G (fun k => spec_l01Cur_prefix.f k l x s a) (fun t => Dr (n + 15) t.2.2.2.2.2.2.1 t.2.2.2.2.2.2.2) := prefix_ok hl hz h (by omega) a
theorem kind_G {n : Nat} {x s : Int} (h : Dr n x s) (hn : n ≤ 880000) : G (fun _ => spec_l01Cur_kind.f l x s) (fun t => Dr (n + 1) t.2.1 t.2.2) := G.of (kind_ok hl hz h (by omega))
theorem badAddr_G {n : Nat} {x s : Int} (h : Dr n x s) (hn : n ≤ 880000) : G (fun _ => spec_l01Cur_badAddr.f l x s) (fun t => Dr (n + 16) t.2.2.2.2.2.1 t.2.2.2.2.2.2) := G.of (badAddr_ok hl hz h (by omega))
theorem badPrefix_G {n : Nat} {x s : Int} (h : Dr n x s) (hn : n ≤ 880000) : G (fun k => spec_l01Cur_badPrefix.f k l x s) (fun t => Dr (n + 33) t.2.2.2.2.2.2.1 t.2.2.2.2.2.2.2) := badPrefix_ok hl hz h (by omega)
theorem idx_G {β : Type} {n : Nat} {x s : Int} (h : Dr n x s) (hn : n ≤ 880000) (a : Int) (L : List Int) (hL : (L.length : Int) = a) (ha : 1 ≤ a) {F : Nat → Int × Int × Int → Option β} {Q : β → Prop} (hF : ∀ t : Int × Int × Int, Dr (n + 1) t.2.1 t.2.2 → G (fun k => F k t) Q) :
    G (fun k => (spec_l01Cur_pick.f l x s a).bind fun t => (if 0 ≤ t.1 then (if t.1 < (L.length : Int) then F k t else none) else none)) Q := by
  refine G.bind (pick_G hl hz h (by omega) a) fun t d => ?_
  have q := d.2.1 ha
  simp only [if_pos d.1, if_pos (show t.1 < (L.length : Int) by omega)]
  exact hF t d.2.2
end

section
variable {l : List Int} (hl : AllB l) (hz : l.length ≤ 1048576)
include hl hz
theorem rule0_G {n : Nat} {x s : Int} (h : Dr n x s) (hn : n ≤ 700000) (v0 v1 v2 v3 v4 v5 v6 v7 v8 v9 v10 v11 v12 v13 v14 v15 v16 v17 v18 v19 v20 : Int) : G (fun k => spec_l01Cur_rule.j0 k l x s v0 v1 v2 v3 v4 v5 v6 v7 v8 v9 v10 v11 v12 v13 v14 v15 v16 v17 v18 v19 v20) (fun t => Dr (n + 10) t.2.2.2.2.2.2.2.2.2.2.2.2.2.2.2.2.2.2.2.2.2.1 t.2.2.2.2.2.2.2.2.2.2.2.2.2.2.2.2.2.2.2.2.2.2) := by
  refine G.nxt (fun k => spec_l01Cur_rule.j0.eq_2 ..) ?_
  refine G.bind (pick_G hl hz h (by omega) 4) fun t1 d1 => ?_
  by_cases c0 : t1.1 = 0
  · simp only [if_pos c0, Option.bind_some]
    refine idx_G hl hz d1.2.2 (by omega) _ _ (by simp) (by omega) fun t2 d2 => ?_
    refine G.bind (pick_G hl hz d2 (by omega) 4) fun t3 d3 => G.bind (pick_G hl hz d3.2.2 (by omega) 10) fun t4 d4 => G.bind (pick_G hl hz d4.2.2 (by omega) 4) fun t5 d5 => ?_
    exact G.now (d5.2.2.mono (by omega))
  · simp only [if_neg c0]
    by_cases c1 : t1.1 = 1
    · simp only [if_pos c1]
      refine G.bind (pick_G hl hz d1.2.2 (by omega) 4) fun t3 d3 => G.bind (pick_G hl hz d3.2.2 (by omega) 10) fun t4 d4 => G.bind (pick_G hl hz d4.2.2 (by omega) 4) fun t5 d5 => ?_
      exact G.now (d5.2.2.mono (by omega))
    · simp only [if_neg c1]
      refine G.bind (pick_G hl hz d1.2.2 (by omega) 4) fun t3 d3 => G.bind (pick_G hl hz d3.2.2 (by omega) 10) fun t4 d4 => G.bind (pick_G hl hz d4.2.2 (by omega) 4) fun t5 d5 => ?_
      exact G.now (d5.2.2.mono (by omega))
theorem rule_G {n : Nat} {x s : Int} (h : Dr n x s) (hn : n ≤ 600000) (a : Int) : G (fun k => spec_l01Cur_rule.f k l x s a) (fun t => Dr (n + 70) t.2.2.2.2.2.2.2.2.2.2.2.2.2.2.2.2.2.2.2.2.2.1 t.2.2.2.2.2.2.2.2.2.2.2.2.2.2.2.2.2.2.2.2.2.2) := by
  unfold spec_l01Cur_rule.f
  simp only [Option.bind_some]
  refine G.bind (kind_G hl hz h (by omega)) fun t1 d1 => G.bind (prefix_G hl hz d1 (by omega) _) fun t2 d2 => G.bind (prefix_G hl hz d2 (by omega) _) fun t3 d3 => ?_
  refine idx_G hl hz d3 (by omega) _ _ (by simp) (by omega) fun t4 d4 => ?_
  refine G.bind (once_G hl hz d4 (by omega) 3) fun t5 d5 => ?_
  by_cases c : t5.1 = true
  · simp only [if_pos c]
    refine G.bind (pick_G hl hz d5 (by omega) 3) fun t6 d6 => G.bind (pick_G hl hz d6.2.2 (by omega) 9) fun t7 d7 => ?_
    exact G.up (rule0_G hl hz d7.2.2 (by omega) _ _ _ _ _ _ _ _ _ _ _ _ _ _ _ _ _ _ _ _ _) fun t ht => Dr.mono ht (by omega)
  · simp only [if_neg c]
    exact G.up (rule0_G hl hz d5 (by omega) _ _ _ _ _ _ _ _ _ _ _ _ _ _ _ _ _ _ _ _ _) fun t ht => Dr.mono ht (by omega)
theorem badRule_G {n : Nat} {x s : Int} (h : Dr n x s) (hn : n ≤ 500000) : G (fun k => spec_l01Cur_badRule.f k l x s) (fun t => Dr (n + 120) t.2.2.2.2.2.2.2.2.2.2.2.2.2.2.2.2.2.2.2.2.2.1 t.2.2.2.2.2.2.2.2.2.2.2.2.2.2.2.2.2.2.2.2.2.2) := by
  unfold spec_l01Cur_badRule.f
  simp only [Option.bind_some]
  refine G.bind (pick_G hl hz h (by omega) 20) fun t1 d1 => G.bind (rule_G hl hz d1.2.2 (by omega) _) fun t2 d2 => G.bind (pick_G hl hz d2 (by omega) 14) fun t3 d3 => ?_
  by_cases c0 : t3.1 = 0
  · simp only [if_pos c0]
    refine G.bind (raw_G hl hz d3.2.2 (by omega)) fun t4 d4 => idx_G hl hz d4 (by omega) _ _ (by simp) (by omega) fun t5 d5 => ?_
    exact G.now (d5.mono (by omega))
  · simp only [if_neg c0]
    by_cases c1 : t3.1 = 1
    · simp only [if_pos c1]
      exact G.bind (badPrefix_G hl hz d3.2.2 (by omega)) fun t4 d4 => G.now (d4.mono (by omega))
    · simp only [if_neg c1]
      by_cases c2 : t3.1 = 2
      · simp only [if_pos c2]
        refine G.bind (raw_G hl hz d3.2.2 (by omega)) fun t4 d4 => idx_G hl hz d4 (by omega) _ _ (by simp) (by omega) fun t5 d5 => ?_
        exact G.now (d5.mono (by omega))
      · simp only [if_neg c2]
        by_cases c3 : t3.1 = 3
        · simp only [if_pos c3]
          refine G.bind (raw_G hl hz d3.2.2 (by omega)) fun t4 d4 => idx_G hl hz d4 (by omega) _ _ (by simp) (by omega) fun t5 d5 => ?_
          exact G.now (d5.mono (by omega))
        · simp only [if_neg c3]
          by_cases c4 : t3.1 = 4
          · simp only [if_pos c4]
            refine G.bind (raw_G hl hz d3.2.2 (by omega)) fun t4 d4 => idx_G hl hz d4 (by omega) _ _ (by simp) (by omega) fun t5 d5 => ?_
            exact G.now (d5.mono (by omega))
          · simp only [if_neg c4]
            by_cases c5 : t3.1 = 5
            · simp only [if_pos c5]
              refine G.bind (raw_G hl hz d3.2.2 (by omega)) fun t4 d4 => idx_G hl hz d4 (by omega) _ _ (by simp) (by omega) fun t5 d5 => ?_
              exact G.now (d5.mono (by omega))
            · simp only [if_neg c5]
              by_cases c6 : t3.1 = 6
              · simp only [if_pos c6]
                refine G.bind (raw_G hl hz d3.2.2 (by omega)) fun t4 d4 => idx_G hl hz d4 (by omega) _ _ (by simp) (by omega) fun t5 d5 => ?_
                exact G.now (d5.mono (by omega))
              · simp only [if_neg c6]
                by_cases c7 : t3.1 = 7
                · simp only [if_pos c7]
                  refine G.bind (raw_G hl hz d3.2.2 (by omega)) fun t4 d4 => idx_G hl hz d4 (by omega) _ _ (by simp) (by omega) fun t5 d5 => ?_
                  exact G.now (d5.mono (by omega))
                · simp only [if_neg c7]
                  exact G.now (d3.2.2.mono (by omega))
theorem key0_G {n : Nat} {x s : Int} (h : Dr n x s) (hn : n ≤ 700000) (b : Bool) (v0 v1 v2 v3 v4 v5 v6 v7 v8 v9 v10 v11 v12 : Int) : G (fun k => spec_l01Cur_key.j0 k b l x s v0 v1 v2 v3 v4 v5 v6 v7 v8 v9 v10 v11 v12) (fun t => Dr (n + 20) t.2.2.2.2.2.2.2.2.2.2.2.2.2.1 t.2.2.2.2.2.2.2.2.2.2.2.2.2.2) := by
  refine G.nxt (fun k => spec_l01Cur_key.j0.eq_2 ..) ?_
  cases b with
  | false => simp only [if_neg (show ¬ (false = true) by decide)]; exact G.now (h.mono (by omega))
  | true =>
    simp only [if_true, Option.bind_some]
    refine G.bind (pick_G hl hz h (by omega) 6) fun t1 d1 => G.bind (wide_G hl hz d1.2.2 (by omega) 65536 (by omega)) fun t2 d2 => idx_G hl hz d2 (by omega) _ _ (by simp) (by omega) fun t3 d3 => ?_
    refine G.bind (wide_G hl hz d3 (by omega) 65536 (by omega)) fun t4 d4 => idx_G hl hz d4 (by omega) _ _ (by simp) (by omega) fun t5 d5 => ?_
    exact G.now (d5.mono (by omega))
theorem key_G {n : Nat} {x s : Int} (h : Dr n x s) (hn : n ≤ 600000) : G (fun k => spec_l01Cur_key.f k l x s) (fun t => Dr (n + 60) t.2.2.2.2.2.2.2.2.2.2.2.2.2.1 t.2.2.2.2.2.2.2.2.2.2.2.2.2.2) := by
  unfold spec_l01Cur_key.f
  simp only [Option.bind_some]
  refine G.bind (kind_G hl hz h (by omega)) fun t1 d1 => G.bind (addr_G hl hz d1 (by omega) _) fun t2 d2 => G.bind (addr_G hl hz d2 (by omega) _) fun t3 d3 => idx_G hl hz d3 (by omega) _ _ (by simp) (by omega) fun t4 d4 => ?_
  split
  · exact G.up (key0_G hl hz d4 (by omega) _ _ _ _ _ _ _ _ _ _ _ _ _ _) fun t ht => Dr.mono ht (by omega)
  · exact G.up (key0_G hl hz d4 (by omega) _ _ _ _ _ _ _ _ _ _ _ _ _ _) fun t ht => Dr.mono ht (by omega)
theorem badKey_G {n : Nat} {x s : Int} (h : Dr n x s) (hn : n ≤ 500000) : G (fun k => spec_l01Cur_badKey.f k l x s) (fun t => Dr (n + 90) t.2.2.2.2.2.2.2.2.2.2.2.2.2.1 t.2.2.2.2.2.2.2.2.2.2.2.2.2.2) := by
  unfold spec_l01Cur_badKey.f
  simp only [Option.bind_some]
  refine G.bind (key_G hl hz h (by omega)) fun t1 d1 => G.bind (pick_G hl hz d1 (by omega) 9) fun t3 d3 => ?_
  by_cases c0 : t3.1 = 0
  · simp only [if_pos c0]
    exact G.bind (badAddr_G hl hz d3.2.2 (by omega)) fun t4 d4 => G.now (d4.mono (by omega))
  · simp only [if_neg c0]
    by_cases c1 : t3.1 = 1
    · simp only [if_pos c1]
      exact G.bind (raw_G hl hz d3.2.2 (by omega)) fun t4 d4 => idx_G hl hz d4 (by omega) _ _ (by simp) (by omega) fun t5 d5 => G.now (d5.mono (by omega))
    · simp only [if_neg c1]
      by_cases c2 : t3.1 = 2
      · simp only [if_pos c2]
        exact G.bind (raw_G hl hz d3.2.2 (by omega)) fun t4 d4 => G.now (d4.mono (by omega))
      · simp only [if_neg c2]
        by_cases c3 : t3.1 = 3
        · simp only [if_pos c3]
          exact idx_G hl hz d3.2.2 (by omega) _ _ (by simp) (by omega) fun t5 d5 => G.now (d5.mono (by omega))
        · simp only [if_neg c3]
          exact G.now (d3.2.2.mono (by omega))
theorem draw_G : G (fun k => spec_DrawRuleHas.f k l) (fun _ => True) := by
  unfold spec_DrawRuleHas.f
  obtain ⟨t0, e0, d0⟩ : ∃ t, spec_l01Open.f l = some (l, t) ∧ Dr 0 t.1 t.2 := ⟨_, rfl, by simp, by simp, by simp; omega, by simp; omega⟩
  simp only [e0, Option.bind_some]
  refine G.bind (badRule_G hl hz d0 (by omega)) fun t1 d1 => G.bind (badKey_G hl hz d1 (by omega)) fun t2 d2 => G.bind (once_G hl hz d2 (by omega) 2) fun t3 _ => ?_
  split
  · exact G.now trivial
  · exact G.now trivial
end
theorem beq_dec (a b : Int) : (a == b) = decide (a = b) := by by_cases h : a = b <;> simp [h]
def wordM (s : Int) : Bool := decide (0 ≤ s ∧ s ≤ 65535)
def keyM (q a b c d q' a' b' c' d' p s t : Int) : Bool := (addrM q a b c d && (addrM q' a' b' c' d' && decide (q = q'))) && (decide (0 ≤ p ∧ p ≤ 255) && (wordM s && wordM t))
theorem key_turn (q a b c d q' a' b' c' d' p s t : Int) : keyM q' a' b' c' d' q a b c d p t s = keyM q a b c d q' a' b' c' d' p s t := by
  unfold keyM
  rw [Bool.and_comm (wordM t), show decide (q' = q) = decide (q = q') from dec_iff ⟨Eq.symm, Eq.symm⟩, Bool.and_left_comm (addrM q' a' b' c' d')]
theorem l05_eq (a b : Int) : spec_l05In.f a b = some (decide (0 ≤ a ∧ a ≤ b)) := by
  unfold spec_l05In.f
  by_cases h : a ≥ 0
  · rw [if_pos h]; exact congrArg some (dec_iff (by omega))
  · rw [if_neg h]; exact congrArg some (dec_false (by omega))
theorem sKeyOk_eq (q a b c d q' a' b' c' d' p s t : Int) : spec_KeyOk.f q a b c d q' a' b' c' d' p s t = some (keyM q a b c d q' a' b' c' d' p s t) := by
  unfold spec_KeyOk.f spec_l07Pair.f keyM
  simp only [sAddrOk_eq, Option.bind_some, l05_eq]
  cases addrM q a b c d <;> cases addrM q' a' b' c' d' <;> simp [wordM, beq_dec]
  by_cases h : q = q' <;> simp [h]
  by_cases h1 : 0 ≤ p ∧ p ≤ 255 <;> by_cases h2 : 0 ≤ s ∧ s ≤ 65535 <;> simp [h1, h2]
theorem iWord_eq (s : Int) : impl_isWord.f s = some (wordM s) := by
  unfold impl_isWord.f wordM
  rw [within_eq]; rfl
theorem iWords_ev (s t : Int) : Ev (fun k => impl_areWords.f k [s, t]) (wordM s && wordM t) := by
  unfold impl_areWords.f
  have h2 : Ev (fun k => impl_areWords.l0 k [s, t] 2 2) true := Ev.next (f := fun _ => some true) (Ev.now _) fun k => by simp [impl_areWords.l0]
  have h1 : Ev (fun k => impl_areWords.l0 k [s, t] 2 1) (wordM t) := by
    cases ht : wordM t with
    | true => exact Ev.next h2 fun k => by simp [impl_areWords.l0, iWord_eq, rd, ht, show wrap64 2 = 2 from wrap_id (by omega) (by omega)]
    | false => exact Ev.next (f := fun _ => some false) (Ev.now _) fun k => by simp [impl_areWords.l0, iWord_eq, rd, ht]
  cases hs : wordM s with
  | true => exact Ev.to (Ev.next h1 fun k => by simp [impl_areWords.l0, iWord_eq, rd, hs, show wrap64 1 = 1 from wrap_id (by omega) (by omega)]) (by simp)
  | false => exact Ev.to (Ev.next (f := fun _ => some false) (Ev.now _) fun k => by simp [impl_areWords.l0, iWord_eq, rd, hs]) (by simp)
theorem iKeyOk_ev (q a b c d q' a' b' c' d' p s t : Int) : Ev (fun k => impl_KeyOk.f k q a b c d q' a' b' c' d' p s t) (keyM q a b c d q' a' b' c' d' p s t) := by
  have e1 : impl_areBoth.f q a b c d q' a' b' c' d' = some (addrM q a b c d && (addrM q' a' b' c' d' && decide (q = q'))) := by
    unfold impl_areBoth.f
    simp only [iAddrOk_eq, Option.bind_some]
    cases addrM q a b c d <;> cases addrM q' a' b' c' d' <;> simp [beq_dec]
  have e2 : impl_isByte.f p = some (decide (0 ≤ p ∧ p ≤ 255)) := by
    unfold impl_isByte.f
    rw [within_eq]; rfl
  unfold impl_KeyOk.f keyM
  simp only [e1, e2, Option.bind_some]
  cases addrM q a b c d && (addrM q' a' b' c' d' && decide (q = q')) with
  | false => exact Ev.now' fun k => by simp
  | true =>
    simp only [if_true, Bool.true_and]
    by_cases h : 0 ≤ p ∧ p ≤ 255
    · simp only [decide_eq_true h, if_true, Bool.true_and]
      exact Ev.bind (iWords_ev s t) (f := fun _ t => some t) (Ev.now _)
    · simp only [decide_eq_false h]
      exact Ev.now' fun k => by simp
theorem iTurned_ev (q a b c d q' a' b' c' d' p s t : Int) : Ev (fun k => impl_Turned.f k q a b c d q' a' b' c' d' p s t) (if keyM q a b c d q' a' b' c' d' p s t = true then (q', a', b', c', d', q, a, b, c, d, p, t, s) else (0, 0, 0, 0, 0, 0, 0, 0, 0, 0, 0, 0, 0)) := by
  unfold impl_Turned.f
  refine Ev.bind (iKeyOk_ev q a b c d q' a' b' c' d' p s t) ?_
  cases keyM q a b c d q' a' b' c' d' p s t <;> exact Ev.now' fun k => by simp
def rangeM (a b : Int) : Bool := decide (0 ≤ a ∧ a ≤ b ∧ b ≤ 65535)
theorem sRange_eq (a b : Int) : spec_l09Range.f a b = some (rangeM a b) := by
  unfold spec_l09Range.f rangeM
  by_cases h : 0 ≤ a
  · rw [if_pos h]
    by_cases h2 : a ≤ b
    · rw [if_pos h2]; exact congrArg some (dec_iff (by omega))
    · rw [if_neg h2]; exact congrArg some (dec_false (by omega))
  · rw [if_neg h]; exact congrArg some (dec_false (by omega))
theorem iRange_eq (a b : Int) : impl_isRange.f a b = some (rangeM a b) := sRange_eq a b
def tailM (x y z : Int) : Bool := decide (1 ≤ x ∧ x ≤ 8) && (decide (1 ≤ y ∧ y ≤ 10) && decide (1 ≤ z ∧ z ≤ 8))
def ruleM (u q a b c d p q' a' b' c' d' p' r e f g h x y z : Int) : Bool := decide (1 ≤ u ∧ u ≤ 9999) && (prefixOkM q a b c d p && (prefixOkM q' a' b' c' d' p' && (decide (-1 ≤ r ∧ r ≤ 255) && (rangeM e f && (rangeM g h && tailM x y z)))))
theorem iRule_ev (u q a b c d p q' a' b' c' d' p' r e f g h x y z : Int) : Ev (fun k => impl_RuleOk.f k u q a b c d p q' a' b' c' d' p' r e f g h x y z) (ruleM u q a b c d p q' a' b' c' d' p' r e f g h x y z) := by
  have hj : ∀ w : Bool, Ev (fun k => impl_RuleOk.j0 k w u q a b c d p q' a' b' c' d' p' r e f g h x y z) (!w && tailM x y z) := by
    intro w
    cases w with
    | true => exact Ev.next (f := fun _ => some false) (Ev.now _) fun k => by simp [impl_RuleOk.j0]
    | false =>
      refine Ev.next (f := fun _ => some (tailM x y z)) (Ev.now _) fun k => ?_
      simp only [impl_RuleOk.j0, within_eq, Option.bind_some, tailM]
      by_cases h1 : 1 ≤ x ∧ x ≤ 8 <;> by_cases h2 : 1 ≤ y ∧ y ≤ 10 <;> simp [h1, h2]
  unfold impl_RuleOk.f ruleM
  simp only [within_eq, iRange_eq, Option.bind_some]
  by_cases h1 : 1 ≤ u ∧ u ≤ 9999
  · simp only [decide_eq_true h1, if_true, Bool.true_and]
    refine Ev.bind (iPrefixOk_ev q a b c d p) ?_
    cases prefixOkM q a b c d p with
    | false => simp only [if_neg (show ¬ (false = true) by decide)]; exact Ev.to (hj true) (by simp)
    | true =>
      simp only [if_true, Bool.true_and]
      refine Ev.bind (iPrefixOk_ev q' a' b' c' d' p') ?_
      cases prefixOkM q' a' b' c' d' p' with
      | false => simp only [if_neg (show ¬ (false = true) by decide)]; exact Ev.to (hj true) (by simp)
      | true =>
        simp only [if_true, Bool.true_and]
        by_cases h2 : -1 ≤ r ∧ r ≤ 255
        · simp only [decide_eq_true h2, if_true, Bool.true_and]
          cases rangeM e f with
          | false => simp only [if_neg (show ¬ (false = true) by decide)]; exact Ev.to (hj true) (by simp)
          | true => simp only [if_true, Bool.true_and]; exact Ev.to (hj _) (by simp)
        · simp only [decide_eq_false h2, if_neg (show ¬ (false = true) by decide)]; exact Ev.to (hj true) (by simp)
  · simp only [decide_eq_false h1, if_neg (show ¬ (false = true) by decide)]; exact Ev.to (hj true) (by simp)
theorem sRule_ev (u q a b c d p q' a' b' c' d' p' r e f g h x y z : Int) : Ev (fun k => spec_RuleOk.f k u q a b c d p q' a' b' c' d' p' r e f g h x y z) (ruleM u q a b c d p q' a' b' c' d' p' r e f g h x y z) := by
  have hj : ∀ w : Bool, Ev (fun k => spec_RuleOk.j0 k w u q a b c d p q' a' b' c' d' p' r e f g h x y z) (!w && (rangeM e f && (rangeM g h && tailM x y z))) := by
    intro w
    cases w with
    | true => exact Ev.next (f := fun _ => some false) (Ev.now _) fun k => by simp [spec_RuleOk.j0]
    | false =>
      refine Ev.next (f := fun _ => some (rangeM e f && (rangeM g h && tailM x y z))) (Ev.now _) fun k => ?_
      simp only [spec_RuleOk.j0, sRange_eq, Option.bind_some, tailM]
      cases rangeM e f <;> cases rangeM g h <;> simp
      by_cases h1 : 1 ≤ x <;> by_cases h2 : x ≤ 8 <;> by_cases h3 : 1 ≤ y <;> by_cases h4 : y ≤ 10 <;> by_cases h5 : 1 ≤ z <;> simp [h1, h2, h3, h4, h5]
  unfold spec_RuleOk.f ruleM
  by_cases h1 : u < 1
  · simp only [if_pos h1]; exact Ev.to (hj true) (by rw [decide_eq_false (by omega)]; rfl)
  · simp only [if_neg h1]
    by_cases h2 : u > 9999
    · simp only [if_pos h2]; exact Ev.to (hj true) (by rw [decide_eq_false (by omega)]; rfl)
    · simp only [if_neg h2, decide_eq_true (show 1 ≤ u ∧ u ≤ 9999 by omega), Bool.true_and]
      refine Ev.bind (sPrefixOk_ev q a b c d p) ?_
      cases prefixOkM q a b c d p with
      | false => simp only [if_neg (show ¬ (false = true) by decide)]; exact Ev.to (hj true) (by simp)
      | true =>
        simp only [if_true, Bool.true_and]
        refine Ev.bind (sPrefixOk_ev q' a' b' c' d' p') ?_
        cases prefixOkM q' a' b' c' d' p' with
        | false => simp only [if_neg (show ¬ (false = true) by decide)]; exact Ev.to (hj true) (by simp)
        | true =>
          simp only [if_true, Bool.true_and]
          by_cases h3 : r < -1
          · simp only [if_pos h3]; exact Ev.to (hj true) (by rw [decide_eq_false (show ¬ (-1 ≤ r ∧ r ≤ 255) by omega)]; rfl)
          · simp only [if_neg h3]
            by_cases h4 : r > 255
            · exact Ev.to (hj _) (by rw [decide_eq_true h4, decide_eq_false (show ¬ (-1 ≤ r ∧ r ≤ 255) by omega)]; rfl)
            · exact Ev.to (hj _) (by rw [decide_eq_false h4, decide_eq_true (show -1 ≤ r ∧ r ≤ 255 by omega)]; rfl)
theorem rule_turn (u q a b c d p q' a' b' c' d' p' r e f g h x y z : Int) : ruleM u q' a' b' c' d' p' q a b c d p r g h e f x y z = ruleM u q a b c d p q' a' b' c' d' p' r e f g h x y z := by
  unfold ruleM
  rw [Bool.and_left_comm (prefixOkM q' a' b' c' d' p'), Bool.and_left_comm (rangeM g h)]
def fitM (r pr s t e f g h : Int) : Bool := decide (r = -1 ∨ r = pr) && (decide (e ≤ s ∧ s ≤ f) && decide (g ≤ t ∧ t ≤ h))
theorem fit_turn (r pr s t e f g h : Int) : fitM r pr t s g h e f = fitM r pr s t e f g h := by
  unfold fitM
  rw [Bool.and_comm (decide (g ≤ t ∧ t ≤ h))]
theorem iHasRule_ev (u q a b c d p q' a' b' c' d' p' r e f g h x y z kq ka kb kc kd kq' ka' kb' kc' kd' kp ks kt : Int) : Ev (fun k => impl_RuleHas.f k u q a b c d p q' a' b' c' d' p' r e f g h x y z kq ka kb kc kd kq' ka' kb' kc' kd' kp ks kt) (ruleM u q a b c d p q' a' b' c' d' p' r e f g h x y z && (keyM kq ka kb kc kd kq' ka' kb' kc' kd' kp ks kt && (hasM q a b c d p kq ka kb kc kd && (hasM q' a' b' c' d' p' kq' ka' kb' kc' kd' && fitM r kp ks kt e f g h)))) := by
  unfold impl_RuleHas.f
  refine Ev.bind (iRule_ev ..) ?_
  cases ruleM u q a b c d p q' a' b' c' d' p' r e f g h x y z with
  | false => exact Ev.now' fun k => by simp
  | true =>
    simp only [if_true, Bool.true_and]
    refine Ev.bind (iKeyOk_ev ..) ?_
    cases keyM kq ka kb kc kd kq' ka' kb' kc' kd' kp ks kt with
    | false => exact Ev.now' fun k => by simp
    | true =>
      simp only [if_true, Bool.true_and]
      refine Ev.bind (f := fun _ t => some t) ?_ (Ev.now _)
      unfold impl_Rule_matches.f
      refine Ev.bind (iHas_ev ..) ?_
      cases hasM q a b c d p kq ka kb kc kd with
      | false => exact Ev.now' fun k => by simp
      | true =>
        simp only [if_true, Bool.true_and]
        refine Ev.bind (iHas_ev ..) ?_
        cases hasM q' a' b' c' d' p' kq' ka' kb' kc' kd' with
        | false => exact Ev.now' fun k => by simp
        | true =>
          simp only [if_true, Bool.true_and, within_eq, Option.bind_some, fitM]
          refine Ev.now' fun k => ?_
          by_cases h1 : r = -1
          · by_cases h2 : e ≤ ks ∧ ks ≤ f <;> simp [h1, h2]
          · by_cases h3 : r = kp
            · by_cases h2 : e ≤ ks ∧ ks ≤ f <;> simp [h1, h2, ← h3]
            · simp [h1, h3]
theorem sHasRule_ev (u q a b c d p q' a' b' c' d' p' r e f g h x y z kq ka kb kc kd kq' ka' kb' kc' kd' kp ks kt : Int) : Ev (fun k => spec_RuleHas.f k u q a b c d p q' a' b' c' d' p' r e f g h x y z kq ka kb kc kd kq' ka' kb' kc' kd' kp ks kt) (ruleM u q a b c d p q' a' b' c' d' p' r e f g h x y z && (keyM kq ka kb kc kd kq' ka' kb' kc' kd' kp ks kt && (prefHasM q a b c d p kq ka kb kc kd && (prefHasM q' a' b' c' d' p' kq' ka' kb' kc' kd' && fitM r kp ks kt e f g h)))) := by
  have hj : ∀ w : Bool, Ev (fun k => spec_RuleHas.j0 k w u q a b c d p q' a' b' c' d' p' r e f g h x y z kq ka kb kc kd kq' ka' kb' kc' kd' kp ks kt) (!w && fitM r kp ks kt e f g h) := by
    intro w
    cases w with
    | true => exact Ev.next (f := fun _ => some false) (Ev.now _) fun k => by simp [spec_RuleHas.j0]
    | false =>
      refine Ev.next (f := fun _ => some (fitM r kp ks kt e f g h)) (Ev.now _) fun k => ?_
      simp only [spec_RuleHas.j0, fitM]
      by_cases h1 : r = -1
      · by_cases h2 : e ≤ ks <;> by_cases h4 : ks ≤ f <;> by_cases h5 : g ≤ kt <;> simp [h1, h2, h4, h5]
      · by_cases h3 : r = kp
        · by_cases h2 : e ≤ ks <;> by_cases h4 : ks ≤ f <;> by_cases h5 : g ≤ kt <;> simp [h1, h2, h4, h5, ← h3]
        · simp [h1, h3]
  unfold spec_RuleHas.f
  refine Ev.bind (sRule_ev ..) ?_
  cases ruleM u q a b c d p q' a' b' c' d' p' r e f g h x y z with
  | false => simp only [if_neg (show ¬ (false = true) by decide)]; exact Ev.to (hj true) (by simp)
  | true =>
    simp only [if_true, Bool.true_and, sKeyOk_eq, Option.bind_some]
    cases keyM kq ka kb kc kd kq' ka' kb' kc' kd' kp ks kt with
    | false => simp only [if_neg (show ¬ (false = true) by decide)]; exact Ev.to (hj true) (by simp)
    | true =>
      simp only [if_true, Bool.true_and]
      refine Ev.bind (sPrefHas_ev ..) ?_
      cases prefHasM q a b c d p kq ka kb kc kd with
      | false => simp only [if_neg (show ¬ (false = true) by decide)]; exact Ev.to (hj true) (by simp)
      | true =>
        simp only [if_true, Bool.true_and]
        refine Ev.bind (sPrefHas_ev ..) ?_
        exact Ev.to (hj _) (by simp)
theorem has_same (u q a b c d p q' a' b' c' d' p' r e f g h x y z kq ka kb kc kd kq' ka' kb' kc' kd' kp ks kt : Int) :
    (ruleM u q' a' b' c' d' p' q a b c d p r g h e f x y z && (keyM kq' ka' kb' kc' kd' kq ka kb kc kd kp kt ks && (hasM q' a' b' c' d' p' kq' ka' kb' kc' kd' && (hasM q a b c d p kq ka kb kc kd && fitM r kp kt ks g h e f)))) =
    (ruleM u q a b c d p q' a' b' c' d' p' r e f g h x y z && (keyM kq ka kb kc kd kq' ka' kb' kc' kd' kp ks kt && (prefHasM q a b c d p kq ka kb kc kd && (prefHasM q' a' b' c' d' p' kq' ka' kb' kc' kd' && fitM r kp ks kt e f g h)))) := by
  rw [rule_turn, key_turn, fit_turn]
  cases hR : ruleM u q a b c d p q' a' b' c' d' p' r e f g h x y z with
  | false => rfl
  | true =>
    cases hK : keyM kq ka kb kc kd kq' ka' kb' kc' kd' kp ks kt with
    | false => rfl
    | true =>
      simp only [ruleM, Bool.and_eq_true] at hR
      simp only [keyM, Bool.and_eq_true] at hK
      simp only [prefHasM, hR.2.1, hR.2.2.1, hK.1.1, hK.1.2.1, Bool.true_and]
      rw [Bool.and_left_comm]
theorem FnTurnedKey : laws_FnTurnedKey.Pure := by
  intro l0 _ _ hw
  refine Ev.rounds ?_
  have hl : AllB l0 := fun x hx => byte_wf (hw x hx)
  unfold laws_FnTurnedKey.f laws_big.f
  simp only [Option.bind_some]
  by_cases hz : (l0.length : Int) > 1048576
  · exact Ev.now' fun k => by rw [decide_eq_true hz, if_pos rfl]
  · simp only [decide_eq_false hz, if_neg (show ¬ (false = true) by decide)]
    obtain ⟨⟨u, q, a, b, c, d, p, q', a', b', c', d', p', r, e, f, g, h, x, y, z, kq, ka, kb, kc, kd, kq', ka', kb', kc', kd', kp, ks, kt⟩, h1, _⟩ := draw_G hl (by omega)
    refine Ev.bind h1 ?_
    simp only [sKeyOk_eq, Option.bind_some]
    have hT := iTurned_ev kq ka kb kc kd kq' ka' kb' kc' kd' kp ks kt
    have hT2 := iTurned_ev kq' ka' kb' kc' kd' kq ka kb kc kd kp kt ks
    rw [key_turn] at hT2
    cases hK : keyM kq ka kb kc kd kq' ka' kb' kc' kd' kp ks kt with
    | false =>
      simp only [hK, if_neg (show ¬ (false = true) by decide)] at hT ⊢
      exact Ev.bind hT (Ev.now' fun k => by simp)
    | true =>
      simp only [hK, if_true] at hT hT2 ⊢
      refine Ev.bind hT (Ev.bind hT2 ?_)
      simp only [beq_self_eq_true, Bool.and_self, if_true]
      refine Ev.bind (iHasRule_ev ..) (Ev.bind (sHasRule_ev ..) (Ev.now' fun k => ?_))
      rw [has_same]; simp

end Go.Proofs.Ytjhgkonacdimfaa.Pure
