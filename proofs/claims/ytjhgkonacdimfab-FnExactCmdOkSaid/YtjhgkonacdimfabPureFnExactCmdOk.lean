/- The program's CmdOk returns what the reference's CmdOk returns, for every command (commands of which the law's own count speaks: any other answers true at once). No condition. -/
import Derived.Test.YtjhgkonacdimfabPFnExactCmdOkx29
namespace Go.Proofs.Ytjhgkonacdimfab.Pure
open Go.RowKit Go.Proofs.Ytjhgkonacdimfab.PFnExactCmdOk Go.Proofs.YtjhgkonacdimfabW.PrintWords Go.Proofs.YtjhgkonacdimfabW.PrintLast Go.Proofs.YtjhgkonacdimfabW.PrintMore Go.Proofs.YtjhgkonacdimfabV
set_option linter.unusedVariables false
set_option linter.unusedSimpArgs false

theorem down {N : Nat} {P : Nat → Prop} (h0 : P N) (hs : ∀ n, n < N → P (n + 1) → P n) : ∀ n, n ≤ N → P n := by
  intro n hn
  obtain ⟨d, rfl⟩ : ∃ d, N = n + d := ⟨N - n, by omega⟩
  clear hn
  induction d generalizing n with
  | zero => exact h0
  | succ d ih => exact hs n (by omega) (ih (n + 1) (by rw [show n + 1 + d = n + (d + 1) by omega]; exact h0) (fun m hm hp => hs m (by omega) hp))

theorem wrap_id {x : Int} (h1 : -9223372036854775808 ≤ x) (h2 : x ≤ 9223372036854775807) : wrap64 x = x := by
  unfold wrap64; omega

theorem wrap_succ {n : Nat} (h : n < 4611686018427387904) : wrap64 ((n : Int) + 1) = ((n + 1 : Nat) : Int) := by
  rw [wrap_id (by omega) (by omega)]; omega

theorem wrap_pred {n : Nat} (h0 : 0 < n) (h : n < 4611686018427387904) : wrap64 ((n : Int) - 1) = ((n - 1 : Nat) : Int) := by
  rw [wrap_id (by omega) (by omega)]; omega

theorem getD_lt {α : Type} {l : List α} {n : Nat} (d : α) (h : n < l.length) : l.getD n d = l[n] := by
  rw [List.getD_eq_getElem?_getD, List.getElem?_eq_getElem h]; rfl

theorem rd_nat (l : List Int) (n : Nat) : rd l (n : Int) = l.getD n 0 := by
  unfold rd; simp

theorem Ev.now' {α : Type} {g : Nat → Option α} {r : α} (h : ∀ k, g k = some r) : Ev g r := ⟨0, fun k _ => h k⟩

/-- One round, and what follows. -/
theorem Ev.next {α : Type} {g f : Nat → Option α} {r : α} (k : Ev f r) (h : ∀ k, g (k + 1) = f k) : Ev g r := Ev.step h k

theorem Ev.to {α : Type} {g : Nat → Option α} {r q : α} (h : Ev g r) (e : r = q) : Ev g q := e ▸ h

theorem list_drop_cons {α : Type} {l : List α} {n : Nat} (h : n < l.length) : l.drop n = l[n] :: l.drop (n + 1) := List.drop_eq_getElem_cons h

theorem mem_drop {α : Type} {l : List α} {n : Nat} (h : n < l.length) {x : α} : x ∈ l.drop n ↔ x = l[n] ∨ x ∈ l.drop (n + 1) := by
  rw [List.drop_eq_getElem_cons h, List.mem_cons]

theorem any_drop {α : Type} {l : List α} {n : Nat} (h : n < l.length) (q : α → Bool) : (l.drop n).any q = (q l[n] || (l.drop (n + 1)).any q) := by
  rw [List.drop_eq_getElem_cons h, List.any_cons]

theorem all_drop {α : Type} {l : List α} {n : Nat} (h : n < l.length) (q : α → Bool) : (l.drop n).all q = (q l[n] && (l.drop (n + 1)).all q) := by
  rw [List.drop_eq_getElem_cons h, List.all_cons]

theorem dec_false {p : Prop} [Decidable p] (h : ¬ p) : false = decide p := (decide_eq_false h).symm
theorem dec_true {p : Prop} [Decidable p] (h : p) : true = decide p := (decide_eq_true h).symm
theorem dec_iff {p q : Prop} [Decidable p] [Decidable q] (h : p ↔ q) : decide p = decide q := decide_eq_decide.2 h

theorem within_eq (a b c : Int) : impl_within.f a b c = some (decide (b ≤ a ∧ a ≤ c)) := by
  unfold impl_within.f
  by_cases h : a ≥ b
  · rw [if_pos h]; congr 1; simp; omega
  · rw [if_neg h]; congr 1; simp; omega

theorem grow_eq (n : Int) (h0 : 0 ≤ n) (h1 : n ≤ 1048576) : slices_Grow_byte_byte.f n = some [] := by
  have e : wrap64 n = n := wrap_id (by omega) (by omega)
  unfold slices_Grow_byte_byte.f
  rw [if_neg (by omega), e]
  by_cases h : n > 0
  · rw [if_pos h, if_pos h0, if_pos (by simp; omega)]
    simp
  · rw [if_neg h]

def sumLen (LL : List (List Int)) : Nat := LL.flatten.length
theorem rdL_nat (LL : List (List Int)) (n : Nat) (h : n < LL.length) : rd_L8 LL (n : Int) = LL[n] := by
  unfold rd_L8; rw [Int.toNat_natCast, getD_lt _ h]
theorem flat_drop {LL : List (List Int)} {n : Nat} (h : n < LL.length) : (LL.drop n).flatten = LL[n] ++ (LL.drop (n + 1)).flatten := by
  rw [List.drop_eq_getElem_cons h, List.flatten_cons]

theorem concat_l1 (LL : List (List Int)) (hl : LL.length ≤ 1048576) (hs : LL.flatten.length ≤ 1048576) : ∀ n, n ≤ LL.length → ∀ acc : List Int, acc.length + (LL.drop n).flatten.length ≤ 1048576 → Ev (fun k => slices_Concat_byte_byte.l1 k acc LL (LL.length : Int) (n : Int)) (acc ++ (LL.drop n).flatten) := by
  refine down ?_ ?_
  · intro acc ha
    refine Ev.to (Ev.next (f := fun _ => some acc) (Ev.now _) fun k => ?_) (by simp)
    simp only [slices_Concat_byte_byte.l1]; rw [if_neg (by omega)]
  · intro n hn ih acc ha
    rw [flat_drop hn] at ha ⊢
    rw [List.length_append] at ha
    refine Ev.to (Ev.next (ih (acc ++ LL[n]) (by rw [List.length_append]; omega)) fun k => ?_) (by simp)
    simp only [slices_Concat_byte_byte.l1]
    rw [if_pos (by omega), if_pos (by omega), if_pos (by omega), rdL_nat LL n hn, if_pos (by omega), wrap_succ (by omega)]

theorem concat_l0 (LL : List (List Int)) (hl : LL.length ≤ 1048576) (hs : LL.flatten.length ≤ 1048576) : ∀ n, n ≤ LL.length → ∀ s : Nat, s + (LL.drop n).flatten.length ≤ 1048576 → Ev (fun k => slices_Concat_byte_byte.l0 k LL (s : Int) LL (LL.length : Int) (n : Int)) LL.flatten := by
  refine down ?_ ?_
  · intro s hs'
    refine Ev.to (Ev.next (concat_l1 LL hl hs 0 (by omega) [] (by simpa using hs)) fun k => ?_) (by simp)
    simp only [slices_Concat_byte_byte.l0]; rw [if_neg (by omega), grow_eq _ (by omega) (by omega)]; rfl
  · intro n hn ih s hs'
    rw [flat_drop hn, List.length_append] at hs'
    refine Ev.next (ih (s + LL[n].length) (by omega)) fun k => ?_
    simp only [slices_Concat_byte_byte.l0]
    rw [if_pos (by omega), if_pos (by omega), if_pos (by omega), rdL_nat LL n hn, wrap_id (by omega) (by omega), if_neg (by omega), wrap_succ (by omega), show (s : Int) + (LL[n].length : Int) = ((s + LL[n].length : Nat) : Int) by omega]

theorem concat_ev (LL : List (List Int)) (hl : LL.length ≤ 1048576) (hs : LL.flatten.length ≤ 1048576) : Ev (fun k => slices_Concat_byte_byte.f k LL) LL.flatten := by
  have := concat_l0 LL hl hs 0 (by omega) 0 (by simpa using hs)
  exact Ev.congr (fun k => by unfold slices_Concat_byte_byte.f; rfl) this

def halfM (x : Int) : Bool := decide (0 ≤ x ∧ x ≤ 4294967295)
def addrM (q a b c d : Int) : Bool := if q = 4 then decide (a = 0 ∧ b = 0 ∧ c = 0) && halfM d else if q = 6 then halfM a && (halfM b && (halfM c && halfM d)) else false
def put4 (x : Int) : List Int := [x / 16777216 % 256, x / 65536 % 256, x / 256 % 256, x % 256]
def addrBytesM (q a b c d : Int) : List Int := if addrM q a b c d = true then (if q = 4 then put4 d else put4 a ++ put4 b ++ put4 c ++ put4 d) else []
def bitsM (q : Int) : Int := if q = 4 then 32 else 128

theorem half_true {x : Int} (h : halfM x = true) : 0 ≤ x ∧ x ≤ 4294967295 := by simpa [halfM] using h
theorem sHalf_eq (x : Int) : spec_l03Half.f x = some (halfM x) := by
  unfold spec_l03Half.f halfM
  by_cases h : x ≥ 0
  · rw [if_pos h]; congr 1; exact dec_iff (by omega)
  · rw [if_neg h]; congr 1; exact dec_false (by omega)
theorem iHalf_eq (x : Int) : impl_isLong.f x = some (halfM x) := by
  unfold impl_isLong.f; rw [within_eq]; rfl

theorem sAddrOk_eq (q a b c d : Int) : spec_AddrOk.f q a b c d = some (addrM q a b c d) := by
  unfold spec_AddrOk.f addrM
  simp only [sHalf_eq, Option.bind_some]
  by_cases h4 : q = 4
  · rw [if_pos h4, if_pos h4]
    by_cases ha : a = 0 <;> by_cases hb : b = 0 <;> by_cases hc : c = 0 <;> simp [ha, hb, hc]
  · rw [if_neg h4, if_neg h4]
    by_cases h6 : q = 6
    · rw [if_pos h6, if_pos h6]
      cases halfM a <;> cases halfM b <;> cases halfM c <;> simp
    · rw [if_neg h6, if_neg h6]
theorem iAddrOk_eq (q a b c d : Int) : impl_AddrOk.f q a b c d = some (addrM q a b c d) := by
  unfold impl_AddrOk.f addrM
  simp only [iHalf_eq, Option.bind_some]
  by_cases h4 : q = 4
  · rw [if_pos h4, if_pos h4]
    by_cases ha : a = 0 <;> by_cases hb : b = 0 <;> by_cases hc : c = 0 <;> simp [ha, hb, hc]
  · rw [if_neg h4, if_neg h4]
    by_cases h6 : q = 6
    · rw [if_pos h6, if_pos h6]
      cases halfM a <;> cases halfM b <;> cases halfM c <;> simp
    · rw [if_neg h6, if_neg h6]

theorem low_eq (x m : Int) (h0 : 0 ≤ x) (hm : 0 < m) (h1 : x < m) : spec_l01Low.f x m = some x := by
  unfold spec_l01Low.f
  rw [if_neg (by omega), Int.tmod_eq_emod_of_nonneg h0, Int.emod_eq_of_lt h0 h1, if_neg (by omega)]

theorem sPut16_eq (x : Int) (h0 : 0 ≤ x) (h1 : x < 65536) : spec_Put16.f x = some [x / 256 % 256, x % 256] := by
  unfold spec_Put16.f
  rw [low_eq x 65536 h0 (by omega) h1, Option.bind_some, Int.tdiv_eq_ediv_of_nonneg h0, Int.tmod_eq_emod_of_nonneg h0, wrap_id (by omega) (by omega), Int.emod_emod_of_dvd _ (by omega : (256 : Int) ∣ 256)]

theorem sPut32_eq (x : Int) (h : halfM x = true) : spec_Put32.f x = some (put4 x) := by
  have h' := half_true h
  unfold spec_Put32.f put4
  rw [low_eq x 4294967296 h'.1 (by omega) (by omega), Option.bind_some, Int.tdiv_eq_ediv_of_nonneg h'.1, Int.tmod_eq_emod_of_nonneg h'.1, wrap_id (by omega) (by omega), sPut16_eq _ (by omega) (by omega), sPut16_eq _ (by omega) (by omega)]
  simp only [Option.bind_some, List.length_cons, List.length_nil]
  rw [if_pos (by omega)]
  have e1 : x / 65536 / 256 % 256 = x / 16777216 % 256 := by omega
  have e3 : x % 65536 / 256 % 256 = x / 256 % 256 := by omega
  have e4 : x % 65536 % 256 = x % 256 := by omega
  rw [e1, e3, e4]; rfl

theorem iPut32_ev (x : Int) : Ev (fun k => impl_Put32.f k x) (put4 x) := by
  refine ⟨5, fun k hk => ?_⟩
  obtain ⟨m, rfl⟩ : ∃ m, k = m + 5 := ⟨k - 5, by omega⟩
  simp [impl_Put32.f, impl_put.f, impl_put.l0, wrap64, shr, put4, IntKind.bits]

theorem put4_len (x : Int) : (put4 x).length = 4 := rfl

theorem sAddrBytes_eq (q a b c d : Int) : spec_AddrBytes.f q a b c d = some (addrBytesM q a b c d) := by
  unfold spec_AddrBytes.f addrBytesM
  rw [sAddrOk_eq, Option.bind_some]
  cases h : addrM q a b c d with
  | false => simp
  | true =>
    unfold addrM at h
    rw [if_pos rfl, if_pos rfl]
    by_cases h4 : q = 4
    · rw [if_pos h4] at h ⊢
      rw [if_pos h4, sPut32_eq d (by simp at h; exact h.2)]; rfl
    · rw [if_neg h4] at h
      by_cases h6 : q = 6
      · rw [if_pos h6] at h
        simp only [Bool.and_eq_true] at h
        rw [if_neg h4, if_neg h4, sPut32_eq a h.1, sPut32_eq b h.2.1, sPut32_eq c h.2.2.1, sPut32_eq d h.2.2.2]
        simp [put4_len]
      · rw [if_neg h6] at h; cases h

theorem iAddrBytes_ev (q a b c d : Int) : Ev (fun k => impl_AddrBytes.f k q a b c d) (addrBytesM q a b c d) := by
  unfold impl_AddrBytes.f addrBytesM
  simp only [iAddrOk_eq, Option.bind_some]
  cases addrM q a b c d with
  | false => exact Ev.now' fun k => by simp
  | true =>
    simp only [if_true]
    by_cases h4 : q = 4
    · simp only [if_pos h4]
      exact Ev.bind (iPut32_ev d) (f := fun _ t => some t) (Ev.now _)
    · simp only [if_neg h4]
      refine Ev.bind (iPut32_ev a) (Ev.bind (iPut32_ev b) (Ev.bind (iPut32_ev c) (Ev.bind (iPut32_ev d) ?_)))
      refine Ev.to (Ev.bind (concat_ev [put4 a, put4 b, put4 c, put4 d] (by simp) (by simp [put4_len])) (f := fun _ t => some t) (Ev.now _)) (by simp)

theorem put4_byte {x y : Int} (h : y ∈ put4 x) : 0 ≤ y ∧ y < 256 := by
  unfold put4 at h
  simp only [List.mem_cons, List.not_mem_nil, or_false] at h
  omega
theorem addrBytes_byte {q a b c d y : Int} (h : y ∈ addrBytesM q a b c d) : 0 ≤ y ∧ y < 256 := by
  unfold addrBytesM at h
  split at h
  · split at h
    · exact put4_byte h
    · simp only [List.mem_append] at h
      rcases h with ((h | h) | h) | h <;> exact put4_byte h
  · cases h
theorem addrBytes_len {q a b c d : Int} (h : addrM q a b c d = true) : ((addrBytesM q a b c d).length : Int) * 8 = bitsM q ∧ ((addrBytesM q a b c d).length = 4 ∨ (addrBytesM q a b c d).length = 16) := by
  unfold addrBytesM bitsM
  rw [if_pos h]
  by_cases h4 : q = 4
  · rw [if_pos h4, if_pos h4]; simp [put4_len]
  · rw [if_neg h4, if_neg h4]; simp [put4_len]

/-- The top bits of a byte. -/
def maskTop (b : Int) (r : Nat) : Int := b / 2 ^ (8 - r) * 2 ^ (8 - r)
/-- A byte without one of its bits. -/
def clr (b : Int) (j : Nat) : Int := if b / (128 / 2 ^ j) % 2 = 1 then b - 128 / 2 ^ j else b
def clrs (b : Int) : Nat → Nat → Int
  | _, 0 => b
  | j, d + 1 => clrs (clr b j) (j + 1) d
theorem and_tab : ∀ b : Fin 256, ∀ r : Fin 9, Go.bits .and .u8 (b.val : Int) ((shr .u16 65280 (r.val : Int)) % 256) = maskTop (b.val : Int) r.val := by decide +kernel
theorem clr_tab : ∀ b : Fin 256, ∀ s : Fin 9, clrs (b.val : Int) s.val (8 - s.val) = maskTop (b.val : Int) s.val := by decide +kernel
theorem clr_one : ∀ b : Fin 256, ∀ j : Fin 8, (if (b.val : Int) / (128 / 2 ^ j.val) % 2 = 1 then ((b.val : Int) - 128 / 2 ^ j.val % 256) % 256 else (b.val : Int)) = clr (b.val : Int) j.val ∧ 0 ≤ clr (b.val : Int) j.val ∧ clr (b.val : Int) j.val < 256 ∧ (0 : Int) < 128 / 2 ^ j.val := by decide +kernel
theorem mask_tab : ∀ b : Fin 256, ∀ r : Fin 9, 0 ≤ maskTop (b.val : Int) r.val ∧ maskTop (b.val : Int) r.val < 256 := by decide +kernel

theorem byte_fin {b : Int} (h : 0 ≤ b ∧ b < 256) : ∃ f : Fin 256, b = (f.val : Int) := ⟨⟨b.toNat, by omega⟩, by simp; omega⟩

theorem or_eq (n b : Nat) (hn : n < 1099511627776) (hb : b < 256) : Go.bits .or .i64 ((n : Int) * 256) (b : Int) = (n : Int) * 256 + b := by
  unfold Go.bits
  have e1 : BitVec.ofInt IntKind.i64.bits ((n : Int) * 256) = BitVec.ofNat 64 (n * 256) := by
    rw [show ((n : Int) * 256) = ((n * 256 : Nat) : Int) by simp]; rfl
  have e2 : BitVec.ofInt IntKind.i64.bits (b : Int) = BitVec.ofNat 64 b := rfl
  rw [e1, e2]
  show IntKind.i64.wrap ((BitVec.ofNat 64 (n * 256) ||| BitVec.ofNat 64 b).toNat : Int) = _
  rw [BitVec.toNat_or, BitVec.toNat_ofNat, BitVec.toNat_ofNat, Nat.mod_eq_of_lt (by omega), Nat.mod_eq_of_lt (by omega)]
  have h := Nat.two_pow_add_eq_or_of_lt (i := 8) (b := b) (by omega) n
  rw [show n * 256 = 2 ^ 8 * n by omega, ← h, i64_w]
  unfold wrap64; omega

def AllB (l : List Int) : Prop := ∀ x ∈ l, 0 ≤ x ∧ x < 256
theorem allB_get {l : List Int} (h : AllB l) {n : Nat} (hn : n < l.length) : 0 ≤ l.getD n 0 ∧ l.getD n 0 < 256 := by
  rw [getD_lt 0 hn]; exact h _ (List.getElem_mem hn)

/-- Four bytes as a number. -/
def beM (l : List Int) (o : Nat) : Int := ((l.getD o 0 * 256 + l.getD (o + 1) 0) * 256 + l.getD (o + 2) 0) * 256 + l.getD (o + 3) 0
def addrOfM (l : List Int) : Int × Int × Int × Int × Int × Bool := if l.length = 4 then (4, 0, 0, 0, beM l 0, true) else if l.length = 16 then (6, beM l 0, beM l 4, beM l 8, beM l 12, true) else (0, 0, 0, 0, 0, false)

theorem sBe32_ev (l : List Int) (o : Nat) (ho : o + 4 ≤ l.length) (hl : l.length ≤ 16) (hb : AllB l) : Ev (fun k => spec_Be32.f k l (o : Int)) (beM l o, true) := by
  have b0 := allB_get hb (show o < l.length by omega)
  have b1 := allB_get hb (show o + 1 < l.length by omega)
  have b2 := allB_get hb (show o + 2 < l.length by omega)
  have b3 := allB_get hb (show o + 3 < l.length by omega)
  have rd' : ∀ i : Nat, rd l ((o : Int) + (i : Int)) = l.getD (o + i) 0 := fun i => by rw [← rd_nat]; congr 1
  have step : ∀ (k : Nat) (v : Int) (i : Nat), i < 4 → 0 ≤ v → v < 16777216 → spec_Be32.l0 (k + 1) l (o : Int) v (i : Int) = spec_Be32.l0 k l (o : Int) (v * 256 + l.getD (o + i) 0) ((i + 1 : Nat) : Int) := by
    intro k v i hi h0 h1
    have bi := allB_get hb (show o + i < l.length by omega)
    simp only [spec_Be32.l0]
    rw [if_pos (by omega), wrap_id (x := (o : Int) + (i : Int)) (by omega) (by omega), if_pos (by omega), if_pos (by omega), rd', wrap_id (x := 256 * v) (by omega) (by omega), wrap_id (x := l.getD (o + i) 0) (by omega) (by omega), wrap_id (by omega) (by omega), wrap_succ (by omega), Int.mul_comm 256 v]
  refine ⟨6, fun k hk => ?_⟩
  obtain ⟨m, rfl⟩ : ∃ m, k = m + 1 + 1 + 1 + 1 + 1 + 1 := ⟨k - 6, by omega⟩
  unfold spec_Be32.f
  dsimp only
  rw [if_neg (by omega), decide_eq_false (by rw [wrap_id (by omega) (by omega)]; omega)]
  simp only [spec_Be32.j0]
  rw [if_neg (by decide)]
  have s0 := step (m + 1 + 1 + 1 + 1) 0 0 (by omega) (by omega) (by omega)
  have s1 := step (m + 1 + 1 + 1) (0 * 256 + l.getD (o + 0) 0) 1 (by omega) (by simp only [Nat.add_zero]; omega) (by simp only [Nat.add_zero]; omega)
  have s2 := step (m + 1 + 1) ((0 * 256 + l.getD (o + 0) 0) * 256 + l.getD (o + 1) 0) 2 (by omega) (by simp only [Nat.add_zero]; omega) (by simp only [Nat.add_zero]; omega)
  have s3 := step (m + 1) (((0 * 256 + l.getD (o + 0) 0) * 256 + l.getD (o + 1) 0) * 256 + l.getD (o + 2) 0) 3 (by omega) (by simp only [Nat.add_zero]; omega) (by simp only [Nat.add_zero]; omega)
  refine s0.trans (s1.trans (s2.trans (s3.trans ?_)))
  simp only [spec_Be32.l0]
  rw [if_neg (by omega)]
  simp [beM]

theorem iBe_step (l : List Int) (k : Nat) (v : Nat) (i : Nat) (hi : i < l.length) (hl : l.length ≤ 16) (hb : AllB l) (hv : v < 16777216) : impl_beOf.l0 (k + 1) (v : Int) l (l.length : Int) (i : Int) = impl_beOf.l0 k (((v * 256 + (l.getD i 0).toNat : Nat) : Int)) l (l.length : Int) ((i + 1 : Nat) : Int) := by
  have bi := allB_get hb hi
  simp only [impl_beOf.l0]
  rw [if_pos (by omega), if_pos (by omega), if_pos (by omega), rd_nat, wrap_id (x := (v : Int) * 256) (by omega) (by omega), wrap_id (x := l.getD i 0) (by omega) (by omega), wrap_succ (by omega)]
  have := or_eq v (l.getD i 0).toNat (by omega) (by omega)
  rw [show (((l.getD i 0).toNat : Nat) : Int) = l.getD i 0 by omega] at this
  rw [this, show (v : Int) * 256 + l.getD i 0 = ((v * 256 + (l.getD i 0).toNat : Nat) : Int) by omega]

theorem iBe_ev (l : List Int) (h4 : l.length = 4) (hb : AllB l) : Ev (fun k => impl_beOf.f k l) (beM l 0) := by
  have b0 := allB_get hb (show 0 < l.length by omega)
  have b1 := allB_get hb (show 1 < l.length by omega)
  have b2 := allB_get hb (show 2 < l.length by omega)
  have b3 := allB_get hb (show 3 < l.length by omega)
  refine ⟨5, fun k hk => ?_⟩
  obtain ⟨m, rfl⟩ : ∃ m, k = m + 1 + 1 + 1 + 1 + 1 := ⟨k - 5, by omega⟩
  unfold impl_beOf.f
  dsimp only
  have t0 := iBe_step l (m + 1 + 1 + 1 + 1) 0 0 (by omega) (by omega) hb (by omega)
  have t1 := iBe_step l (m + 1 + 1 + 1) (0 * 256 + (l.getD 0 0).toNat) 1 (by omega) (by omega) hb (by omega)
  have t2 := iBe_step l (m + 1 + 1) ((0 * 256 + (l.getD 0 0).toNat) * 256 + (l.getD 1 0).toNat) 2 (by omega) (by omega) hb (by omega)
  have t3 := iBe_step l (m + 1) (((0 * 256 + (l.getD 0 0).toNat) * 256 + (l.getD 1 0).toNat) * 256 + (l.getD 2 0).toNat) 3 (by omega) (by omega) hb (by omega)
  refine t0.trans (t1.trans (t2.trans (t3.trans ?_)))
  simp only [impl_beOf.l0]
  rw [if_neg (by omega)]
  congr 1
  unfold beM
  simp only [Nat.zero_add]
  omega

theorem sAddrOf_ev (l : List Int) (hb : AllB l) : Ev (fun k => spec_AddrOf.f k l) (addrOfM l) := by
  unfold spec_AddrOf.f addrOfM
  by_cases h4 : l.length = 4
  · simp only [if_pos (show (l.length : Int) = 4 by omega), if_pos h4]
    have g0 : Ev (fun k => spec_Be32.f k l 0) (beM l 0, true) := sBe32_ev l 0 (by omega) (by omega) hb
    exact Ev.bind g0 (f := fun _ bt => some ((4 : Int), (0 : Int), (0 : Int), (0 : Int), bt.1, true)) (Ev.now _)
  · simp only [if_neg (show ¬ (l.length : Int) = 4 by omega), if_neg h4]
    by_cases h16 : l.length = 16
    · simp only [if_pos (show (l.length : Int) = 16 by omega), if_pos h16]
      have g0 : Ev (fun k => spec_Be32.f k l 0) (beM l 0, true) := sBe32_ev l 0 (by omega) (by omega) hb
      have g1 : Ev (fun k => spec_Be32.f k l 4) (beM l 4, true) := sBe32_ev l 4 (by omega) (by omega) hb
      have g2 : Ev (fun k => spec_Be32.f k l 8) (beM l 8, true) := sBe32_ev l 8 (by omega) (by omega) hb
      have g3 : Ev (fun k => spec_Be32.f k l 12) (beM l 12, true) := sBe32_ev l 12 (by omega) (by omega) hb
      exact Ev.bind g0 (Ev.bind g1 (Ev.bind g2 (Ev.bind g3 (Ev.now _))))
    · simp only [if_neg (show ¬ (l.length : Int) = 16 by omega), if_neg h16]
      exact Ev.now _

theorem beM_seg (l : List Int) (o n : Nat) (h : o + 4 ≤ n) (hn : n ≤ l.length) : beM ((l.take n).drop o) 0 = beM l o := by
  have e : ∀ i, i < 4 → ((l.take n).drop o).getD i 0 = l.getD (o + i) 0 := by
    intro i hi
    rw [getD_lt 0 (by rw [List.length_drop, List.length_take]; omega), getD_lt 0 (by omega)]
    simp
  unfold beM
  rw [e 0 (by omega), e (0 + 1) (by omega), e (0 + 2) (by omega), e (0 + 3) (by omega)]
  simp only [Nat.add_zero, Nat.zero_add]

theorem allB_seg {l : List Int} (h : AllB l) (o n : Nat) : AllB ((l.take n).drop o) := fun x hx => h x (List.mem_of_mem_take (List.mem_of_mem_drop hx))

theorem iAddrOf_ev (l : List Int) (hb : AllB l) : Ev (fun k => impl_AddrOf.f k l) (addrOfM l) := by
  unfold impl_AddrOf.f addrOfM
  by_cases h4 : l.length = 4
  · simp only [if_pos (show (l.length : Int) = 4 by omega), if_pos h4]
    exact Ev.bind (iBe_ev l h4 hb) (f := fun _ t => some ((4 : Int), (0 : Int), (0 : Int), (0 : Int), t, true)) (Ev.now _)
  · simp only [if_neg (show ¬ (l.length : Int) = 4 by omega), if_neg h4]
    by_cases h16 : l.length = 16
    · simp only [if_pos (show (l.length : Int) = 16 by omega), if_pos h16, if_pos (show (4 : Int) ≤ (l.length : Int) by omega), if_pos (show (8 : Int) ≤ (l.length : Int) by omega), if_pos (show (12 : Int) ≤ (l.length : Int) by omega), if_pos (show (4 : Int) ≤ 8 by omega), if_pos (show (8 : Int) ≤ 12 by omega)]
      have g : ∀ o n : Nat, o + 4 = n → n ≤ 16 → Ev (fun k => impl_beOf.f k ((l.take n).drop o)) (beM l o) := by
        intro o n h1 h2
        exact Ev.to (iBe_ev _ (by rw [List.length_drop, List.length_take]; omega) (allB_seg hb o n)) (beM_seg l o n (by omega) (by omega))
      have g0 : Ev (fun k => impl_beOf.f k (l.take 4)) (beM l 0) := g 0 4 rfl (by omega)
      have g3 : Ev (fun k => impl_beOf.f k (l.drop 12)) (beM l 12) := by
        have := g 12 16 rfl (by omega)
        rwa [List.take_of_length_le (by omega)] at this
      exact Ev.bind g0 (Ev.bind (g 4 8 rfl (by omega)) (Ev.bind (g 8 12 rfl (by omega)) (Ev.bind g3 (Ev.now _))))
    · simp only [if_neg (show ¬ (l.length : Int) = 16 by omega), if_neg h16]
      exact Ev.now _

/-- Bits cleared one after another. -/
def sClear (B : List Int) : Nat → Nat → List Int
  | 0, _ => B
  | d + 1, q => sClear (B.set (q / 8) (clr (B.getD (q / 8) 0) (q % 8))) d (q + 1)

theorem allB_set {l : List Int} (h : AllB l) {i : Nat} {v : Int} (hv : 0 ≤ v ∧ v < 256) : AllB (l.set i v) := by
  intro x hx
  rcases List.mem_or_eq_of_mem_set hx with hx | hx
  · exact h x hx
  · subst hx; exact hv

theorem clr_byte {b : Int} (h : 0 ≤ b ∧ b < 256) {j : Nat} (hj : j < 8) : (if b / (128 / 2 ^ j) % 2 = 1 then (b - 128 / 2 ^ j % 256) % 256 else b) = clr b j ∧ 0 ≤ clr b j ∧ clr b j < 256 ∧ (0 : Int) < 128 / 2 ^ j := by
  obtain ⟨f, rfl⟩ := byte_fin h
  exact clr_one f ⟨j, hj⟩

theorem sClear_len : ∀ d q (B : List Int), (sClear B d q).length = B.length := by
  intro d
  induction d with
  | zero => intro q B; rfl
  | succ d ih => intro q B; rw [sClear, ih, List.length_set]

theorem sClear_all : ∀ d q (B : List Int), AllB B → q + d ≤ 8 * B.length → AllB (sClear B d q) := by
  intro d
  induction d with
  | zero => intro q B h _; exact h
  | succ d ih =>
    intro q B h hq
    rw [sClear]
    have hb := allB_get h (show q / 8 < B.length by omega)
    have hc := clr_byte hb (show q % 8 < 8 by omega)
    exact ih (q + 1) _ (allB_set h ⟨hc.2.1, hc.2.2.1⟩) (by rw [List.length_set]; omega)

/-- Where in byte i the cleared bits lie. -/
def posIn (i q : Nat) : Nat := min (q - 8 * i) 8

theorem sClear_get : ∀ d q (B : List Int) (i : Nat), i < B.length → q + d ≤ 8 * B.length → (sClear B d q).getD i 0 = clrs (B.getD i 0) (posIn i q) (posIn i (q + d) - posIn i q) := by
  intro d
  induction d with
  | zero => intro q B i hi _; rw [Nat.add_zero, Nat.sub_self]; rfl
  | succ d ih =>
    intro q B i hi hq
    rw [sClear, ih (q + 1) _ i (by rw [List.length_set]; exact hi) (by rw [List.length_set]; omega)]
    have hg : (B.set (q / 8) (clr (B.getD (q / 8) 0) (q % 8))).getD i 0 = if q / 8 = i then clr (B.getD i 0) (q % 8) else B.getD i 0 := by
      rw [getD_lt 0 (by rw [List.length_set]; exact hi), List.getElem_set]
      by_cases e : q / 8 = i
      · rw [if_pos e, if_pos e, e]
      · rw [if_neg e, if_neg e, getD_lt 0 hi]
    rw [hg]
    by_cases e : q / 8 = i
    · rw [if_pos e]
      have e1 : posIn i q = q % 8 := by unfold posIn; omega
      have e2 : posIn i (q + 1) = q % 8 + 1 := by unfold posIn; omega
      have e3 : posIn i (q + (d + 1)) - posIn i q = (posIn i (q + 1 + d) - posIn i (q + 1)) + 1 := by unfold posIn; omega
      rw [e3, e1, e2]; rfl
    · rw [if_neg e]
      have e1 : posIn i (q + 1) = posIn i q := by unfold posIn; omega
      rw [e1, show q + 1 + d = q + (d + 1) by omega]

theorem sCut_l1 (B : List Int) (q : Int) (a b c d e : Int) (res : Int × Int × Int × Int × Int) : ∀ r : Nat, ∀ w : Int, 0 ≤ w → w ≤ 128 → r ≤ 8 → Ev (fun k => spec_Cut.l1 k B q (w / 2 ^ r) 0 a b c d e) res → Ev (fun k => spec_Cut.l1 k B q w (r : Int) a b c d e) res := by
  intro r
  induction r with
  | zero => intro w h0 h1 _ h; simpa using h
  | succ r ih =>
    intro w h0 h1 hr h
    refine Ev.next (ih (w / 2) (by omega) (by omega) (by omega) ?_) fun k => ?_
    · rw [Int.ediv_ediv_of_nonneg (by omega), ← Int.pow_succ']; exact h
    · simp only [spec_Cut.l1]
      rw [if_pos (by omega), Int.tdiv_eq_ediv_of_nonneg h0, wrap_id (x := w / 2) (by omega) (by omega), wrap_id (by omega) (by omega), show ((r + 1 : Nat) : Int) - 1 = (r : Int) by omega]

theorem sCut_loop (a b c d e : Int) (len : Nat) (hlen : ((len : Int) * 8 = bitsM a)) (hl : len ≤ 16) : ∀ m n, n + m = 8 * len → ∀ B : List Int, B.length = len → AllB B →
    Ev (fun k => spec_Cut.l0 k B (n : Int) a b c d e) ((addrOfM (sClear B m n)).1, (addrOfM (sClear B m n)).2.1, (addrOfM (sClear B m n)).2.2.1, (addrOfM (sClear B m n)).2.2.2.1, (addrOfM (sClear B m n)).2.2.2.2.1) := by
  have hbits : spec_l03Bits.f a b c d e = some (bitsM a) := by
    unfold spec_l03Bits.f bitsM; by_cases h : a = 4
    · rw [if_pos h, if_pos h]
    · rw [if_neg h, if_neg h]
  intro m
  induction m with
  | zero =>
    intro n hn B hB hb
    refine Ev.next (f := fun k => (spec_AddrOf.f k B).bind fun bt169 => some (bt169.1, bt169.2.1, bt169.2.2.1, bt169.2.2.2.1, bt169.2.2.2.2.1)) (Ev.bind (sAddrOf_ev B hb) (Ev.now _)) fun k => ?_
    simp only [spec_Cut.l0, hbits, Option.bind_some]
    rw [if_neg (by omega)]
  | succ m ih =>
    intro n hn B hB hb
    have hi : n / 8 < B.length := by omega
    have hg := allB_get hb hi
    have hc := clr_byte hg (show n % 8 < 8 by omega)
    have hnext := ih (n + 1) (by omega) (B.set (n / 8) (clr (B.getD (n / 8) 0) (n % 8))) (by rw [List.length_set]; exact hB) (allB_set hb ⟨hc.2.1, hc.2.2.1⟩)
    refine Ev.next (f := fun k => spec_Cut.l1 k B (n : Int) 128 ((n % 8 : Nat) : Int) a b c d e) ?_ fun k => ?_
    · refine sCut_l1 B n a b c d e _ (n % 8) 128 (by omega) (by omega) (by omega) ?_
      refine Ev.next hnext fun k => ?_
      simp only [spec_Cut.l1]
      rw [if_neg (by omega), Int.tdiv_eq_ediv_of_nonneg (by omega), wrap_id (x := (n : Int) / 8) (by omega) (by omega), if_pos (by omega), if_pos (by omega), if_neg (by omega),
        show (n : Int) / 8 = ((n / 8 : Nat) : Int) by omega, rd_nat, wrap_id (x := B.getD (n / 8) 0) (by omega) (by omega), Int.tdiv_eq_ediv_of_nonneg hg.1, Int.toNat_natCast, wrap_succ (by omega)]
      have hq0 : 0 ≤ B.getD (n / 8) 0 / (128 / 2 ^ (n % 8)) := Int.ediv_nonneg hg.1 (by omega)
      have hq1 : B.getD (n / 8) 0 / (128 / 2 ^ (n % 8)) ≤ B.getD (n / 8) 0 := Int.ediv_le_self _ hg.1
      rw [wrap_id (by omega) (by omega), Int.tmod_eq_emod_of_nonneg hq0]
      by_cases h1 : B.getD (n / 8) 0 / (128 / 2 ^ (n % 8)) % 2 = 1
      · have hc1 := hc.1
        rw [if_pos h1] at hc1
        rw [if_pos h1, hc1]
      · have hc1 := hc.1
        rw [if_neg h1] at hc1
        rw [if_neg h1, ← hc1]
        congr 1
        rw [getD_lt 0 hi, List.set_getElem_self]
    · simp only [spec_Cut.l0, hbits, Option.bind_some]
      rw [if_pos (by omega), Int.tmod_eq_emod_of_nonneg (by omega), show (n : Int) % 8 = ((n % 8 : Nat) : Int) by omega]
/-- What is left of a list of bytes. -/
def maskList (B : List Int) (p : Nat) : List Int := (List.range B.length).map fun (i : Nat) => maskTop (B.getD i 0) (posIn i p)
theorem mask_len (B : List Int) (p : Nat) : (maskList B p).length = B.length := by simp [maskList]
theorem mask_at (B : List Int) (p : Nat) {i : Nat} (hi : i < B.length) : (maskList B p).getD i 0 = maskTop (B.getD i 0) (posIn i p) := by
  rw [getD_lt 0 (by rw [mask_len]; exact hi)]; simp [maskList]
theorem mask_byte {b : Int} (h : 0 ≤ b ∧ b < 256) {r : Nat} (hr : r ≤ 8) : 0 ≤ maskTop b r ∧ maskTop b r < 256 ∧ Go.bits .and .u8 b ((shr .u16 65280 (r : Int)) % 256) = maskTop b r ∧ clrs b r (8 - r) = maskTop b r := by
  obtain ⟨f, rfl⟩ := byte_fin h
  have h1 := mask_tab f ⟨r, by omega⟩
  exact ⟨h1.1, h1.2, and_tab f ⟨r, by omega⟩, clr_tab f ⟨r, by omega⟩⟩
theorem mask_all {B : List Int} (h : AllB B) (p : Nat) : AllB (maskList B p) := by
  intro x hx
  unfold maskList at hx
  obtain ⟨i, hi, rfl⟩ := List.mem_map.1 hx
  have := mask_byte (allB_get h (List.mem_range.1 hi)) (show posIn i p ≤ 8 by unfold posIn; omega)
  exact ⟨this.1, this.2.1⟩
theorem clear_mask {B : List Int} (h : AllB B) {p : Nat} (hp : p ≤ 8 * B.length) : sClear B (8 * B.length - p) p = maskList B p := by
  apply List.ext_getElem
  · rw [sClear_len, mask_len]
  · intro i h1 h2
    rw [sClear_len] at h1
    have e1 : (sClear B (8 * B.length - p) p)[i] = (sClear B (8 * B.length - p) p).getD i 0 := (getD_lt 0 _).symm
    have e2 : (maskList B p)[i] = (maskList B p).getD i 0 := (getD_lt 0 _).symm
    rw [e1, e2, sClear_get _ _ _ i h1 (by omega), mask_at B p h1, show p + (8 * B.length - p) = 8 * B.length by omega, show posIn i (8 * B.length) = 8 by unfold posIn; omega]
    exact (mask_byte (allB_get h h1) (show posIn i p ≤ 8 by unfold posIn; omega)).2.2.2

def five (t : Int × Int × Int × Int × Int × Bool) : Int × Int × Int × Int × Int := (t.1, t.2.1, t.2.2.1, t.2.2.2.1, t.2.2.2.2.1)
def cutM (q a b c d p : Int) : Int × Int × Int × Int × Int := if (addrM q a b c d && decide (0 ≤ p ∧ p ≤ bitsM q)) = true then five (addrOfM (maskList (addrBytesM q a b c d) p.toNat)) else (0, 0, 0, 0, 0)

theorem addrBytes_all (q a b c d : Int) : AllB (addrBytesM q a b c d) := fun _ h => addrBytes_byte h

theorem sCut_ev (q a b c d p : Int) : Ev (fun k => spec_Cut.f k q a b c d p) (cutM q a b c d p) := by
  have hj : ∀ t : Bool, (t = false → addrM q a b c d = true ∧ 0 ≤ p ∧ p ≤ bitsM q) → Ev (fun k => spec_Cut.j0 k p t q a b c d) (if t = true then (0, 0, 0, 0, 0) else five (addrOfM (maskList (addrBytesM q a b c d) p.toNat))) := by
    intro t ht
    cases t with
    | true => exact Ev.next (f := fun _ => some (0, 0, 0, 0, 0)) (Ev.now _) fun k => by simp [spec_Cut.j0]
    | false =>
      obtain ⟨h1, h2, h3⟩ := ht rfl
      have hl := addrBytes_len h1
      have hb := addrBytes_all q a b c d
      have := sCut_loop q a b c d (addrBytesM q a b c d).length hl.1 (by omega) (8 * (addrBytesM q a b c d).length - p.toNat) p.toNat (by omega) _ rfl hb
      rw [clear_mask hb (by omega), show ((p.toNat : Nat) : Int) = p by omega] at this
      refine Ev.next this fun k => ?_
      simp only [spec_Cut.j0]
      rw [if_neg (by decide), sAddrBytes_eq]; rfl
  unfold spec_Cut.f cutM
  simp only [sAddrOk_eq, Option.bind_some]
  cases h : addrM q a b c d with
  | false => exact Ev.to (hj true (by simp)) (by simp)
  | true =>
    simp only [if_true, Bool.true_and]
    by_cases h0 : p < 0
    · simp only [if_pos h0]
      exact Ev.to (hj true (by simp)) (by rw [decide_eq_false (show ¬ (0 ≤ p ∧ p ≤ bitsM q) by omega)]; simp)
    · have hbits : spec_l03Bits.f q a b c d = some (bitsM q) := by
        unfold spec_l03Bits.f bitsM; by_cases h : q = 4
        · rw [if_pos h, if_pos h]
        · rw [if_neg h, if_neg h]
      simp only [if_neg h0, hbits, Option.bind_some]
      by_cases h2 : p > bitsM q
      · rw [decide_eq_true h2, decide_eq_false (show ¬ (0 ≤ p ∧ p ≤ bitsM q) by omega)]
        exact Ev.to (hj true (by simp)) (by simp)
      · rw [decide_eq_false h2, decide_eq_true (show 0 ≤ p ∧ p ≤ bitsM q by omega)]
        exact Ev.to (hj false (fun _ => ⟨h, by omega, by omega⟩)) (by simp)

theorem clip_eq (p : Int) (i : Nat) (h0 : 0 ≤ p) (h1 : p ≤ 128) (hi : i ≤ 16) : impl_Clip.f (wrap64 (p - wrap64 (8 * (i : Int)))) 0 8 = some ((posIn i p.toNat : Nat) : Int) := by
  unfold impl_Clip.f posIn
  rw [wrap_id (x := 8 * (i : Int)) (by omega) (by omega), wrap_id (by omega) (by omega)]
  by_cases h : p - 8 * (i : Int) < 0
  · rw [if_pos h]; congr 1; omega
  · rw [if_neg h]
    by_cases h2 : p - 8 * (i : Int) > 8
    · rw [if_pos h2]; congr 1; omega
    · rw [if_neg h2]; congr 1; omega

theorem iCut_loop (p : Int) (h0 : 0 ≤ p) (h1 : p ≤ 128) (B : List Int) (hl : B.length ≤ 16) (hb : AllB B) : ∀ n, n ≤ B.length → ∀ acc : List Int, acc.length = B.length → acc.take n = (maskList B p.toNat).take n → acc.drop n = B.drop n →
    Ev (fun k => impl_Cut.l0 k p acc (B.length : Int) (n : Int)) (five (addrOfM (maskList B p.toNat))) := by
  have hml := mask_len B p.toNat
  refine down ?_ ?_
  · intro acc ha ht _
    have e : acc = maskList B p.toNat := by rw [List.take_of_length_le (by omega), List.take_of_length_le (by omega)] at ht; exact ht
    subst e
    refine Ev.next (f := fun k => (impl_AddrOf.f k (maskList B p.toNat)).bind fun bt295 => some (bt295.1, bt295.2.1, bt295.2.2.1, bt295.2.2.2.1, bt295.2.2.2.2.1)) (Ev.bind (iAddrOf_ev _ (mask_all hb _)) (Ev.now _)) fun k => ?_
    simp only [impl_Cut.l0]; rw [if_neg (by omega)]
  · intro n hn ih acc ha ht hd
    have hr : posIn n p.toNat ≤ 8 := by unfold posIn; omega
    have hg : acc.getD n 0 = B.getD n 0 := by
      have : (acc.drop n)[0]'(by rw [List.length_drop]; omega) = (B.drop n)[0]'(by rw [List.length_drop]; omega) := by simp only [hd]
      rw [getD_lt 0 (by omega : n < acc.length), getD_lt 0 hn]
      simpa using this
    have hm := mask_byte (allB_get hb hn) hr
    refine Ev.next (ih (acc.set n (maskTop (B.getD n 0) (posIn n p.toNat))) (by simpa using ha) ?_ ?_) fun k => ?_
    · have hx : (maskList B p.toNat)[n]'(by omega) = maskTop (B.getD n 0) (posIn n p.toNat) := by rw [← mask_at B p.toNat hn]; exact (getD_lt 0 _).symm
      rw [List.take_set, List.take_add_one, List.take_add_one, ht, List.getElem?_eq_getElem (by omega), List.getElem?_eq_getElem (by omega)]
      have hl' : ((maskList B p.toNat).take n).length = n := by rw [List.length_take]; omega
      simp only [Option.toList_some]
      rw [List.set_append_right _ _ (by omega), hl', hx]
      simp
    · rw [List.drop_set_of_lt (by omega)]
      have := congrArg (List.drop 1) hd
      simpa [List.drop_drop] using this
    · simp only [impl_Cut.l0]
      rw [if_pos (by omega), clip_eq p n h0 h1 (by omega)]
      simp only [Option.bind_some]
      rw [if_pos (by omega), if_pos (by omega), if_pos (by omega), rd_nat, hg, hm.2.2.1, wrap_succ (by omega), Int.toNat_natCast]

theorem iCut_ev (q a b c d p : Int) : Ev (fun k => impl_Cut.f k q a b c d p) (cutM q a b c d p) := by
  have hj : ∀ t : Bool, (t = false → addrM q a b c d = true ∧ 0 ≤ p ∧ p ≤ bitsM q) → Ev (fun k => impl_Cut.j0 k p t q a b c d) (if t = true then (0, 0, 0, 0, 0) else five (addrOfM (maskList (addrBytesM q a b c d) p.toNat))) := by
    intro t ht
    cases t with
    | true => exact Ev.next (f := fun _ => some (0, 0, 0, 0, 0)) (Ev.now _) fun k => by simp [impl_Cut.j0]
    | false =>
      obtain ⟨h1, h2, h3⟩ := ht rfl
      have hl := addrBytes_len h1
      have hb := addrBytes_all q a b c d
      have h128 : bitsM q ≤ 128 := by unfold bitsM; split <;> omega
      have := iCut_loop p h2 (by omega) (addrBytesM q a b c d) (by omega) hb 0 (by omega) _ rfl rfl rfl
      refine Ev.next (Ev.bind (iAddrBytes_ev q a b c d) (f := fun k t289 => impl_Cut.l0 k p t289 (t289.length : Int) 0) this) fun k => ?_
      simp only [impl_Cut.j0]
      rw [if_neg (by decide)]
  unfold impl_Cut.f cutM
  simp only [iAddrOk_eq, Option.bind_some]
  cases h : addrM q a b c d with
  | false => exact Ev.to (hj true (by simp)) (by simp)
  | true =>
    have hbits : impl_bitsOf.f q a b c d = some (bitsM q) := by
      unfold impl_bitsOf.f bitsM; by_cases h : q = 4
      · rw [if_pos h, if_pos h]
      · rw [if_neg h, if_neg h]
    simp only [if_true, Bool.true_and, hbits, within_eq, Option.bind_some]
    by_cases h2 : 0 ≤ p ∧ p ≤ bitsM q
    · rw [decide_eq_true h2]
      exact Ev.to (hj false (fun _ => ⟨h, h2.1, h2.2⟩)) (by simp)
    · rw [decide_eq_false h2]
      exact Ev.to (hj true (by simp)) (by simp)

def anyM (q a b c d p : Int) : Bool := (q == 0 && (a == 0 && (b == 0 && (c == 0 && (d == 0))))) && (p == 0)
def sameM5 (t : Int × Int × Int × Int × Int) (q a b c d : Int) : Bool := t.1 == q && (t.2.1 == a && (t.2.2.1 == b && (t.2.2.2.1 == c && (t.2.2.2.2 == d))))
def prefixOkM (q a b c d p : Int) : Bool := if anyM q a b c d p = true then true else if addrM q a b c d = true then (if 0 ≤ p ∧ p ≤ bitsM q then sameM5 (cutM q a b c d p) q a b c d else false) else false
def prefixBytesM (q a b c d p : Int) : List Int := if prefixOkM q a b c d p = true then (if anyM q a b c d p = true then [0] else [q % 256] ++ addrBytesM q a b c d ++ [p % 256]) else []

theorem sPrefixOk_ev (q a b c d p : Int) : Ev (fun k => spec_PrefixOk.f k q a b c d p) (prefixOkM q a b c d p) := by
  have hbits : spec_l03Bits.f q a b c d = some (bitsM q) := by
    unfold spec_l03Bits.f bitsM; by_cases h : q = 4
    · rw [if_pos h, if_pos h]
    · rw [if_neg h, if_neg h]
  have ha : spec_l03Any.f q a b c d p = some (anyM q a b c d p) := rfl
  unfold spec_PrefixOk.f prefixOkM
  simp only [ha, sAddrOk_eq, hbits, Option.bind_some]
  cases anyM q a b c d p with
  | true => exact Ev.now' fun k => by simp
  | false =>
    simp only [if_neg (show ¬ (false = true) by decide)]
    cases addrM q a b c d with
    | false => exact Ev.now' fun k => by simp
    | true =>
      simp only [if_true]
      by_cases h0 : p ≥ 0
      · by_cases h1 : p ≤ bitsM q
        · simp only [if_pos h0, if_pos h1, if_pos (show 0 ≤ p ∧ p ≤ bitsM q from ⟨h0, h1⟩)]
          exact Ev.bind (sCut_ev q a b c d p) (f := fun _ bt => some (bt.1 == q && (bt.2.1 == a && (bt.2.2.1 == b && (bt.2.2.2.1 == c && (bt.2.2.2.2 == d)))))) (Ev.now _)
        · simp only [if_pos h0, if_neg h1, if_neg (show ¬ (0 ≤ p ∧ p ≤ bitsM q) by omega)]; exact Ev.now _
      · simp only [if_neg h0, if_neg (show ¬ (0 ≤ p ∧ p ≤ bitsM q) by omega)]; exact Ev.now _

theorem iPrefixOk_ev (q a b c d p : Int) : Ev (fun k => impl_PrefixOk.f k q a b c d p) (prefixOkM q a b c d p) := by
  have hbits : impl_bitsOf.f q a b c d = some (bitsM q) := by
    unfold impl_bitsOf.f bitsM; by_cases h : q = 4
    · rw [if_pos h, if_pos h]
    · rw [if_neg h, if_neg h]
  have ha : impl_isAny.f q a b c d p = some (anyM q a b c d p) := rfl
  unfold impl_PrefixOk.f prefixOkM
  simp only [ha, iAddrOk_eq, hbits, within_eq, Option.bind_some]
  cases anyM q a b c d p with
  | true => exact Ev.now' fun k => by simp
  | false =>
    simp only [if_neg (show ¬ (false = true) by decide)]
    cases addrM q a b c d with
    | false => exact Ev.now' fun k => by simp
    | true =>
      simp only [if_true]
      by_cases h0 : 0 ≤ p ∧ p ≤ bitsM q
      · simp only [decide_eq_true h0, if_true, if_pos h0]
        exact Ev.bind (iCut_ev q a b c d p) (f := fun _ bt => some (bt.1 == q && (bt.2.1 == a && (bt.2.2.1 == b && (bt.2.2.2.1 == c && (bt.2.2.2.2 == d)))))) (Ev.now _)
      · simp only [decide_eq_false h0, if_neg h0]; exact Ev.now' fun k => by simp


def twinsM (q1 a1 b1 c1 d1 p1 q2 a2 b2 c2 d2 p2 : Int) : Bool := prefixOkM q1 a1 b1 c1 d1 p1 && (prefixOkM q2 a2 b2 c2 d2 p2 && (!anyM q1 a1 b1 c1 d1 p1 && (!anyM q2 a2 b2 c2 d2 p2 && (decide (q1 = q2) && (p1 == p2)))))
def rangeM (lo hi : Int) : Bool := decide (0 ≤ lo ∧ lo ≤ hi ∧ hi ≤ 65535)
/-- What a module has to be, kind by kind. -/
def moduleM (kd q1 a1 b1 c1 d1 p1 q2 a2 b2 c2 d2 p2 pr lo hi n : Int) : Bool :=
  if kd = 1 then prefixOkM q1 a1 b1 c1 d1 p1 && (prefixOkM q2 a2 b2 c2 d2 p2 && (decide (-1 ≤ pr ∧ pr ≤ 255) && (rangeM lo hi && (n == 0))))
  else if kd = 2 ∨ kd = 3 then twinsM q1 a1 b1 c1 d1 p1 q2 a2 b2 c2 d2 p2 && (pr == 0 && (lo == 0 && (hi == 0 && (n == 0))))
  else if kd = 5 then decide (0 ≤ n ∧ n ≤ 63) && (anyM q1 a1 b1 c1 d1 p1 && (anyM q2 a2 b2 c2 d2 p2 && (pr == 0 && (lo == 0 && (hi == 0)))))
  else if kd = 7 then decide (1 ≤ n ∧ n ≤ 4) && (anyM q1 a1 b1 c1 d1 p1 && (anyM q2 a2 b2 c2 d2 p2 && (pr == 0 && (lo == 0 && (hi == 0)))))
  else if kd = 4 ∨ kd = 6 then anyM q1 a1 b1 c1 d1 p1 && (anyM q2 a2 b2 c2 d2 p2 && (pr == 0 && (lo == 0 && (hi == 0 && (n == 0))))) else false
theorem sTwins_ev (q1 a1 b1 c1 d1 p1 q2 a2 b2 c2 d2 p2 : Int) : Ev (fun k => spec_l10Twins.f k q1 a1 b1 c1 d1 p1 q2 a2 b2 c2 d2 p2) (twinsM q1 a1 b1 c1 d1 p1 q2 a2 b2 c2 d2 p2) := by
  have ha : ∀ q a b c d p, spec_l03Any.f q a b c d p = some (anyM q a b c d p) := fun _ _ _ _ _ _ => rfl
  unfold spec_l10Twins.f twinsM
  refine Ev.bind (sPrefixOk_ev q1 a1 b1 c1 d1 p1) ?_
  cases prefixOkM q1 a1 b1 c1 d1 p1 with
  | false => exact Ev.now' fun k => by simp
  | true =>
    simp only [if_true]
    refine Ev.bind (sPrefixOk_ev q2 a2 b2 c2 d2 p2) ?_
    cases prefixOkM q2 a2 b2 c2 d2 p2 with
    | false => exact Ev.now' fun k => by simp
    | true =>
      refine Ev.now' fun k => ?_
      simp only [ha, Option.bind_some, if_true]
      cases anyM q1 a1 b1 c1 d1 p1 <;> cases anyM q2 a2 b2 c2 d2 p2 <;> by_cases h : q1 = q2 <;> simp [h]
theorem iTwins_ev (q1 a1 b1 c1 d1 p1 q2 a2 b2 c2 d2 p2 : Int) : Ev (fun k => impl_arePairOf.f k q1 a1 b1 c1 d1 p1 q2 a2 b2 c2 d2 p2) (twinsM q1 a1 b1 c1 d1 p1 q2 a2 b2 c2 d2 p2) := by
  have ha : ∀ q a b c d p, impl_isAny.f q a b c d p = some (anyM q a b c d p) := fun _ _ _ _ _ _ => rfl
  unfold impl_arePairOf.f twinsM
  refine Ev.bind (iPrefixOk_ev q1 a1 b1 c1 d1 p1) ?_
  cases prefixOkM q1 a1 b1 c1 d1 p1 with
  | false => exact Ev.now' fun k => by simp
  | true =>
    simp only [if_true]
    refine Ev.bind (iPrefixOk_ev q2 a2 b2 c2 d2 p2) ?_
    cases prefixOkM q2 a2 b2 c2 d2 p2 with
    | false => exact Ev.now' fun k => by simp
    | true =>
      refine Ev.now' fun k => ?_
      simp only [ha, Option.bind_some, if_true]
      cases anyM q1 a1 b1 c1 d1 p1 <;> cases anyM q2 a2 b2 c2 d2 p2 <;> by_cases h : q1 = q2 <;> simp [h]
theorem range_eq (lo hi : Int) : spec_l09Range.f lo hi = some (rangeM lo hi) ∧ impl_isRange.f lo hi = some (rangeM lo hi) := by
  unfold spec_l09Range.f impl_isRange.f rangeM
  constructor
  all_goals (repeat' split)
  all_goals (congr 1; first | exact dec_iff (by omega) | exact dec_false (by omega))
section
variable (kd q1 a1 b1 c1 d1 p1 q2 a2 b2 c2 d2 p2 pr lo hi n : Int)
/-- The reference's test of what a kind leaves empty. -/
def badM (x3 x4 x5 : Bool) : Bool := if x3 = true then (if x5 = true then false else if n = 0 then false else true) else if pr = 0 then (if lo = 0 then (if hi = 0 then (if x5 = true then (if x4 = true then false else if anyM q1 a1 b1 c1 d1 p1 = true then !anyM q2 a2 b2 c2 d2 p2 else true) else if n = 0 then (if x4 = true then false else if anyM q1 a1 b1 c1 d1 p1 = true then !anyM q2 a2 b2 c2 d2 p2 else true) else true) else true) else true) else true
def restM : Bool := if kd = 1 then prefixOkM q1 a1 b1 c1 d1 p1 && (prefixOkM q2 a2 b2 c2 d2 p2 && (decide (-1 ≤ pr ∧ pr ≤ 255) && rangeM lo hi)) else if kd = 2 ∨ kd = 3 then twinsM q1 a1 b1 c1 d1 p1 q2 a2 b2 c2 d2 p2 else if kd = 5 then decide (0 ≤ n ∧ n ≤ 63) else if kd = 7 then decide (1 ≤ n ∧ n ≤ 4) else true
theorem sMod4_ev (t : Bool) : Ev (fun k => spec_ModuleOk.j4 k kd t kd q1 a1 b1 c1 d1 p1 q2 a2 b2 c2 d2 p2 pr lo hi n) (if t = true then twinsM q1 a1 b1 c1 d1 p1 q2 a2 b2 c2 d2 p2 else if kd = 5 then decide (0 ≤ n ∧ n ≤ 63) else if kd = 7 then decide (1 ≤ n ∧ n ≤ 4) else true) := by
  cases t with
  | true =>
    rw [if_pos rfl]
    refine Ev.next (f := fun k => (spec_l10Twins.f k q1 a1 b1 c1 d1 p1 q2 a2 b2 c2 d2 p2).bind fun t529 => some t529) (Ev.bind (sTwins_ev _ _ _ _ _ _ _ _ _ _ _ _) (Ev.now _)) fun k => ?_
    simp only [spec_ModuleOk.j4, if_true]
  | false =>
    rw [if_neg (by decide)]
    refine Ev.next (f := fun _ => some _) (Ev.now _) fun k => ?_
    simp only [spec_ModuleOk.j4, spec_l05In.f]
    rw [if_neg (by decide)]
    by_cases h5 : kd = 5
    · rw [if_pos h5, if_pos h5]
      by_cases h : n ≥ 0
      · rw [if_pos h, Option.bind_some]; congr 1; exact dec_iff (by omega)
      · rw [if_neg h, Option.bind_some]; congr 1; exact dec_false (by omega)
    · rw [if_neg h5, if_neg h5]
      by_cases h7 : kd = 7
      · rw [if_pos h7, if_pos h7]
        by_cases h : n ≥ 1
        · rw [if_pos h]; congr 1; exact dec_iff (by omega)
        · rw [if_neg h]; congr 1; exact dec_false (by omega)
      · rw [if_neg h7, if_neg h7]
theorem sMod3_ev (t : Bool) : Ev (fun k => spec_ModuleOk.j3 k t kd q1 a1 b1 c1 d1 p1 q2 a2 b2 c2 d2 p2 pr lo hi n) (!t && restM kd q1 a1 b1 c1 d1 p1 q2 a2 b2 c2 d2 p2 pr lo hi n) := by
  cases t with
  | true => exact Ev.next (f := fun _ => some false) (Ev.now _) fun k => by simp [spec_ModuleOk.j3]
  | false =>
    unfold restM
    rw [Bool.not_false, Bool.true_and]
    by_cases h1 : kd = 1
    · rw [if_pos h1]
      refine Ev.next (f := fun k => (spec_PrefixOk.f k q1 a1 b1 c1 d1 p1).bind fun t526 => (if t526 = true then ((spec_PrefixOk.f k q2 a2 b2 c2 d2 p2).bind fun t527 => (if t527 = true then (if pr ≥ (-1) then (if pr ≤ 255 then ((spec_l09Range.f lo hi).bind fun t528 => (some t528)) else (some false)) else (some false)) else (some false))) else (some false))) ?_ fun k => by simp only [spec_ModuleOk.j3]; rw [if_neg (by decide), if_pos h1]
      refine Ev.bind (sPrefixOk_ev q1 a1 b1 c1 d1 p1) ?_
      cases prefixOkM q1 a1 b1 c1 d1 p1 with
      | false => exact Ev.now' fun k => by simp
      | true =>
        simp only [if_true]
        refine Ev.bind (sPrefixOk_ev q2 a2 b2 c2 d2 p2) ?_
        cases prefixOkM q2 a2 b2 c2 d2 p2 with
        | false => exact Ev.now' fun k => by simp
        | true =>
          refine Ev.now' fun k => ?_
          simp only [if_true, (range_eq lo hi).1, Option.bind_some, Bool.true_and]
          by_cases h2 : pr ≥ -1
          · by_cases h3 : pr ≤ 255
            · rw [if_pos h2, if_pos h3, decide_eq_true (show -1 ≤ pr ∧ pr ≤ 255 by omega)]; rfl
            · rw [if_pos h2, if_neg h3, decide_eq_false (show ¬ (-1 ≤ pr ∧ pr ≤ 255) by omega)]; rfl
          · rw [if_neg h2, decide_eq_false (show ¬ (-1 ≤ pr ∧ pr ≤ 255) by omega)]; rfl
    · rw [if_neg h1]
      by_cases h2 : kd = 2
      · rw [if_pos (.inl h2)]
        refine Ev.to (Ev.next (sMod4_ev kd q1 a1 b1 c1 d1 p1 q2 a2 b2 c2 d2 p2 pr lo hi n (kd == 2)) fun k => ?_) (by rw [if_pos (by simp [h2])])
        simp only [spec_ModuleOk.j3]; rw [if_neg (by decide), if_neg h1, if_pos h2]
      · refine Ev.to (Ev.next (sMod4_ev kd q1 a1 b1 c1 d1 p1 q2 a2 b2 c2 d2 p2 pr lo hi n (kd == 3)) fun k => ?_) ?_
        · simp only [spec_ModuleOk.j3]; rw [if_neg (by decide), if_neg h1, if_neg h2]
        · by_cases h3 : kd = 3
          · rw [if_pos (by simp [h3]), if_pos (.inr h3)]
          · rw [if_neg (show ¬ ((kd == 3) = true) by simpa using h3), if_neg (show ¬ (kd = 2 ∨ kd = 3) by omega)]
theorem sMod2_ev (x3 x4 x5 x32 : Bool) : Ev (fun k => spec_ModuleOk.j2 k x3 x4 x5 x32 kd q1 a1 b1 c1 d1 p1 q2 a2 b2 c2 d2 p2 pr lo hi n) (!x32 && (!badM q1 a1 b1 c1 d1 p1 q2 a2 b2 c2 d2 p2 pr lo hi n x3 x4 x5 && restM kd q1 a1 b1 c1 d1 p1 q2 a2 b2 c2 d2 p2 pr lo hi n)) := by
  have ha : ∀ q a b c d p, spec_l03Any.f q a b c d p = some (anyM q a b c d p) := fun _ _ _ _ _ _ => rfl
  cases x32 with
  | true => exact Ev.next (f := fun _ => some false) (Ev.now _) fun k => by simp [spec_ModuleOk.j2]
  | false =>
    refine Ev.to (Ev.next (sMod3_ev kd q1 a1 b1 c1 d1 p1 q2 a2 b2 c2 d2 p2 pr lo hi n (badM q1 a1 b1 c1 d1 p1 q2 a2 b2 c2 d2 p2 pr lo hi n x3 x4 x5)) fun k => ?_) (by simp)
    simp only [spec_ModuleOk.j2, ha, Option.bind_some]
    unfold badM
    rw [if_neg (by decide)]
    generalize spec_ModuleOk.j3 k = J
    repeat' split
    all_goals first | rfl | (exfalso; simp_all; done) | simp_all
theorem sModule_ev : Ev (fun k => spec_ModuleOk.f k kd q1 a1 b1 c1 d1 p1 q2 a2 b2 c2 d2 p2 pr lo hi n) (moduleM kd q1 a1 b1 c1 d1 p1 q2 a2 b2 c2 d2 p2 pr lo hi n) := by
  have h1 : ∀ x3 x4 x5, Ev (fun k => spec_ModuleOk.j1 k x3 x4 x5 kd q1 a1 b1 c1 d1 p1 q2 a2 b2 c2 d2 p2 pr lo hi n) (decide (1 ≤ kd ∧ kd ≤ 7) && (!badM q1 a1 b1 c1 d1 p1 q2 a2 b2 c2 d2 p2 pr lo hi n x3 x4 x5 && restM kd q1 a1 b1 c1 d1 p1 q2 a2 b2 c2 d2 p2 pr lo hi n)) := by
    intro x3 x4 x5
    by_cases c : kd < 1
    · refine Ev.to (Ev.next (sMod2_ev kd q1 a1 b1 c1 d1 p1 q2 a2 b2 c2 d2 p2 pr lo hi n x3 x4 x5 true) fun k => ?_) (by rw [decide_eq_false (show ¬ (1 ≤ kd ∧ kd ≤ 7) by omega)]; rfl)
      simp only [spec_ModuleOk.j1]; rw [if_pos c]
    · refine Ev.to (Ev.next (sMod2_ev kd q1 a1 b1 c1 d1 p1 q2 a2 b2 c2 d2 p2 pr lo hi n x3 x4 x5 (decide (kd > 7))) fun k => ?_) ?_
      · simp only [spec_ModuleOk.j1]; rw [if_neg c]
      · congr 1
        by_cases c7 : kd > 7
        · rw [decide_eq_true c7, decide_eq_false (show ¬ (1 ≤ kd ∧ kd ≤ 7) by omega)]; rfl
        · rw [decide_eq_false c7, decide_eq_true (show 1 ≤ kd ∧ kd ≤ 7 by omega)]; rfl
  have h0 : ∀ x3 x4, Ev (fun k => spec_ModuleOk.j0 k x3 x4 kd q1 a1 b1 c1 d1 p1 q2 a2 b2 c2 d2 p2 pr lo hi n) (decide (1 ≤ kd ∧ kd ≤ 7) && (!badM q1 a1 b1 c1 d1 p1 q2 a2 b2 c2 d2 p2 pr lo hi n x3 x4 (kd == 5 || kd == 7) && restM kd q1 a1 b1 c1 d1 p1 q2 a2 b2 c2 d2 p2 pr lo hi n)) := by
    intro x3 x4
    by_cases c : kd = 5
    · refine Ev.to (Ev.next (h1 x3 x4 true) fun k => ?_) (by simp [c])
      simp only [spec_ModuleOk.j0]; rw [if_pos c]
    · refine Ev.to (Ev.next (h1 x3 x4 (kd == 7)) fun k => ?_) (by rw [show (kd == 5 || kd == 7) = (kd == 7) by rw [beq_false_of_ne c]; rfl])
      simp only [spec_ModuleOk.j0]; rw [if_neg c]
  have hf : Ev (fun k => spec_ModuleOk.f k kd q1 a1 b1 c1 d1 p1 q2 a2 b2 c2 d2 p2 pr lo hi n) (decide (1 ≤ kd ∧ kd ≤ 7) && (!badM q1 a1 b1 c1 d1 p1 q2 a2 b2 c2 d2 p2 pr lo hi n (kd == 1) (kd == 2 || kd == 3) (kd == 5 || kd == 7) && restM kd q1 a1 b1 c1 d1 p1 q2 a2 b2 c2 d2 p2 pr lo hi n)) := by
    unfold spec_ModuleOk.f
    by_cases c : kd = 2
    · simp only [if_pos c]; exact Ev.to (h0 (kd == 1) true) (by simp [c])
    · simp only [if_neg c]; exact Ev.to (h0 (kd == 1) (kd == 3)) (by rw [show (kd == 2 || kd == 3) = (kd == 3) by rw [beq_false_of_ne c]; rfl])
  refine Ev.to hf ?_
  unfold moduleM badM restM
  by_cases r : 1 ≤ kd ∧ kd ≤ 7
  · obtain rfl | rfl | rfl | rfl | rfl | rfl | rfl : kd = 1 ∨ kd = 2 ∨ kd = 3 ∨ kd = 4 ∨ kd = 5 ∨ kd = 6 ∨ kd = 7 := by omega
    all_goals (by_cases e1 : pr = 0 <;> by_cases e2 : lo = 0 <;> by_cases e3 : hi = 0 <;> by_cases e4 : n = 0 <;> cases anyM q1 a1 b1 c1 d1 p1 <;> cases anyM q2 a2 b2 c2 d2 p2 <;> simp [e1, e2, e3, e4])
  · rw [decide_eq_false r, Bool.false_and, if_neg (show ¬ kd = 1 by omega), if_neg (show ¬ (kd = 2 ∨ kd = 3) by omega), if_neg (show ¬ kd = 5 by omega), if_neg (show ¬ kd = 7 by omega), if_neg (show ¬ (kd = 4 ∨ kd = 6) by omega)]
theorem iModule_ev : Ev (fun k => impl_ModuleOk.f k kd q1 a1 b1 c1 d1 p1 q2 a2 b2 c2 d2 p2 pr lo hi n) (moduleM kd q1 a1 b1 c1 d1 p1 q2 a2 b2 c2 d2 p2 pr lo hi n) := by
  have hj : ∀ t : Bool, (t = true ↔ kd = 2 ∨ kd = 3) → kd ≠ 1 → Ev (fun k => impl_ModuleOk.j0 k kd t kd q1 a1 b1 c1 d1 p1 q2 a2 b2 c2 d2 p2 pr lo hi n kd q1 a1 b1 c1 d1 p1 q2 a2 b2 c2 d2 p2 pr lo hi n) (moduleM kd q1 a1 b1 c1 d1 p1 q2 a2 b2 c2 d2 p2 pr lo hi n) := by
    intro t ht h1
    unfold moduleM
    rw [if_neg h1]
    cases t with
    | true =>
      rw [if_pos (ht.1 rfl)]
      refine Ev.next (f := fun k => (impl_arePairOf.f k q1 a1 b1 c1 d1 p1 q2 a2 b2 c2 d2 p2).bind fun t674 => (if t674 = true then (some (kd == kd && (pr == 0 && (lo == 0 && (hi == 0 && (n == 0)))))) else (some false))) ?_ fun k => by simp only [impl_ModuleOk.j0, if_true]
      refine Ev.bind (iTwins_ev _ _ _ _ _ _ _ _ _ _ _ _) ?_
      cases twinsM q1 a1 b1 c1 d1 p1 q2 a2 b2 c2 d2 p2 with
      | false => exact Ev.now' fun k => by simp
      | true => exact Ev.now' fun k => by simp
    | false =>
      have h23 : ¬ (kd = 2 ∨ kd = 3) := fun h => absurd (ht.2 h) (by decide)
      rw [if_neg h23]
      refine Ev.next (f := fun _ => some _) (Ev.now _) fun k => ?_
      simp only [impl_ModuleOk.j0, within_eq, Option.bind_some, beq_self_eq_true, Bool.true_and]
      rw [if_neg (by decide)]
      by_cases h5 : kd = 5
      · rw [if_pos h5, if_pos h5]
        by_cases c : 0 ≤ n ∧ n ≤ 63
        · rw [decide_eq_true c, if_pos rfl]; rfl
        · rw [decide_eq_false c, if_neg (by decide)]; rfl
      · rw [if_neg h5, if_neg h5]
        by_cases h7 : kd = 7
        · rw [if_pos h7, if_pos h7]
          by_cases c : 1 ≤ n ∧ n ≤ 4
          · rw [decide_eq_true c, if_pos rfl]; rfl
          · rw [decide_eq_false c, if_neg (by decide)]; rfl
        · rw [if_neg h7, if_neg h7]
          by_cases h4 : kd = 4
          · rw [if_pos h4, if_pos (.inl h4)]; rfl
          · rw [if_neg h4]
            by_cases h6 : kd = 6
            · rw [if_pos h6, if_pos (.inr h6)]; rfl
            · rw [if_neg h6, if_neg (show ¬ (kd = 4 ∨ kd = 6) by omega)]
  unfold impl_ModuleOk.f
  by_cases h1 : kd = 1
  · simp only [if_pos h1]
    unfold moduleM
    rw [if_pos h1]
    refine Ev.bind (iPrefixOk_ev q1 a1 b1 c1 d1 p1) ?_
    cases prefixOkM q1 a1 b1 c1 d1 p1 with
    | false => exact Ev.now' fun k => by simp
    | true =>
      simp only [if_true]
      refine Ev.bind (iPrefixOk_ev q2 a2 b2 c2 d2 p2) ?_
      cases prefixOkM q2 a2 b2 c2 d2 p2 with
      | false => exact Ev.now' fun k => by simp
      | true =>
        refine Ev.now' fun k => ?_
        simp only [if_true, within_eq, (range_eq lo hi).2, Option.bind_some, Bool.true_and]
        cases decide (-1 ≤ pr ∧ pr ≤ 255) <;> cases rangeM lo hi <;> simp
  · simp only [if_neg h1]
    by_cases h2 : kd = 2
    · simp only [if_pos h2]; exact hj (kd == 2) (by simp [h2]) h1
    · simp only [if_neg h2]; exact hj (kd == 3) (by simp [h2]) h1
end

theorem rdM_nat (l : List S65) (n : Nat) (h : n < l.length) : rd_T65 l (n : Int) = l[n] := by
  unfold rd_T65; rw [Int.toNat_natCast, getD_lt _ h]
theorem Ev.all {α β : Type} {P : Nat → α → Option β} {q : α → β} : ∀ l : List α, (∀ x ∈ l, Ev (fun k => P k x) (q x)) → ∃ K, ∀ k, K ≤ k → ∀ x ∈ l, P k x = some (q x)
  | [], _ => ⟨0, fun _ _ x hx => by cases hx⟩
  | y :: l, h => by
    obtain ⟨K1, h1⟩ := h y (by simp)
    obtain ⟨K2, h2⟩ := Ev.all l (fun x hx => h x (by simp [hx]))
    refine ⟨max K1 K2, fun k hk x hx => ?_⟩
    rcases List.mem_cons.1 hx with rfl | hx
    · exact h1 k (by omega)
    · exact h2 k (by omega) x hx
theorem iIndexM (L : List S65) (hl : L.length ≤ 1048576) (p : Int → Int → Int → Int → Int → Int → Int → Int → Int → Int → Int → Int → Int → Int → Int → Int → Int → Option Bool) (q : S65 → Bool)
    (hp : ∀ x ∈ L, p x.f0 x.f1.f0.f0 x.f1.f0.f1 x.f1.f0.f2 x.f1.f0.f3 x.f1.f0.f4 x.f1.f1 x.f2.f0.f0 x.f2.f0.f1 x.f2.f0.f2 x.f2.f0.f3 x.f2.f0.f4 x.f2.f1 x.f3 x.f4 x.f5 x.f6 = some (q x)) : ∀ n, n ≤ L.length → ∃ r : Int, (∀ k, L.length - n < k → slices_IndexFunc_impl_Module_impl_Module.l0 k L p (L.length : Int) (n : Int) = some r) ∧ (0 ≤ r ↔ (L.drop n).any q = true) := by
  refine down ?_ ?_
  · refine ⟨-1, fun k hk => ?_, by simp⟩
    obtain ⟨k, rfl⟩ : ∃ m, k = m + 1 := ⟨k - 1, by omega⟩
    simp only [slices_IndexFunc_impl_Module_impl_Module.l0]; rw [if_neg (by omega)]
  · intro n hn ih
    have hd := List.drop_eq_getElem_cons hn
    have hpn := hp _ (List.getElem_mem hn)
    cases hq : q L[n] with
    | true =>
      refine ⟨n, fun k hk => ?_, by rw [any_drop hn, hq]; simp⟩
      obtain ⟨k, rfl⟩ : ∃ m, k = m + 1 := ⟨k - 1, by omega⟩
      simp only [slices_IndexFunc_impl_Module_impl_Module.l0]
      rw [if_pos (by omega), if_pos (by omega), if_pos (by omega), rdM_nat L n hn, hpn, hq]; simp
    | false =>
      obtain ⟨r, hr, hm⟩ := ih
      refine ⟨r, fun k hk => ?_, by rw [hm, any_drop hn, hq]; simp⟩
      obtain ⟨k, rfl⟩ : ∃ m, k = m + 1 := ⟨k - 1, by omega⟩
      simp only [slices_IndexFunc_impl_Module_impl_Module.l0]
      rw [if_pos (by omega), if_pos (by omega), if_pos (by omega), rdM_nat L n hn, hpn, hq]
      simp only [Option.bind_some, if_neg (show ¬ (false = true) by decide)]
      rw [wrap_succ (by omega)]
      exact hr k (by omega)
theorem iContainsM (L : List S65) (hl : L.length ≤ 1048576) (p : Nat → Int → Int → Int → Int → Int → Int → Int → Int → Int → Int → Int → Int → Int → Int → Int → Int → Int → Option Bool) (q : S65 → Bool)
    (hp : ∀ x ∈ L, Ev (fun k => p k x.f0 x.f1.f0.f0 x.f1.f0.f1 x.f1.f0.f2 x.f1.f0.f3 x.f1.f0.f4 x.f1.f1 x.f2.f0.f0 x.f2.f0.f1 x.f2.f0.f2 x.f2.f0.f3 x.f2.f0.f4 x.f2.f1 x.f3 x.f4 x.f5 x.f6) (q x)) : Ev (fun k => slices_ContainsFunc_impl_Module_impl_Module.f k L (p k)) (L.any q) := by
  obtain ⟨K, hK⟩ := Ev.all (P := fun k (x : S65) => p k x.f0 x.f1.f0.f0 x.f1.f0.f1 x.f1.f0.f2 x.f1.f0.f3 x.f1.f0.f4 x.f1.f1 x.f2.f0.f0 x.f2.f0.f1 x.f2.f0.f2 x.f2.f0.f3 x.f2.f0.f4 x.f2.f1 x.f3 x.f4 x.f5 x.f6) L hp
  refine ⟨max K (L.length + 1), fun k hk => ?_⟩
  obtain ⟨r, hr, hm⟩ := iIndexM L hl (p k) q (hK k (by omega)) 0 (by omega)
  unfold slices_ContainsFunc_impl_Module_impl_Module.f slices_IndexFunc_impl_Module_impl_Module.f
  show (slices_IndexFunc_impl_Module_impl_Module.l0 k L (p k) (L.length : Int) ((0 : Nat) : Int)).bind (fun t => some (decide (t ≥ 0))) = some (L.any q)
  rw [hr k (by omega), Option.bind_some]
  congr 1
  rw [Bool.eq_iff_iff, decide_eq_true_eq]
  simpa using hm
def modOk (x : S65) : Bool := moduleM x.f0 x.f1.f0.f0 x.f1.f0.f1 x.f1.f0.f2 x.f1.f0.f3 x.f1.f0.f4 x.f1.f1 x.f2.f0.f0 x.f2.f0.f1 x.f2.f0.f2 x.f2.f0.f3 x.f2.f0.f4 x.f2.f1 x.f3 x.f4 x.f5 x.f6
def chainM (L : List S65) : Bool := decide (L.length ≤ 8) && L.all modOk
theorem sChain_loop (L : List S65) (hl : L.length ≤ 1048576) : ∀ n, n ≤ L.length → Ev (fun k => spec_ChainOk.l0 k L (n : Int)) ((L.drop n).all modOk) := by
  refine down ?_ ?_
  · refine Ev.to (Ev.next (f := fun _ => some true) (Ev.now _) fun k => ?_) (by simp)
    simp only [spec_ChainOk.l0]; rw [if_neg (by omega)]
  · intro n hn ih
    rw [all_drop hn]
    have hm := sModule_ev L[n].f0 L[n].f1.f0.f0 L[n].f1.f0.f1 L[n].f1.f0.f2 L[n].f1.f0.f3 L[n].f1.f0.f4 L[n].f1.f1 L[n].f2.f0.f0 L[n].f2.f0.f1 L[n].f2.f0.f2 L[n].f2.f0.f3 L[n].f2.f0.f4 L[n].f2.f1 L[n].f3 L[n].f4 L[n].f5 L[n].f6
    refine Ev.next (Ev.bind hm (f := fun k t => if t = true then spec_ChainOk.l0 k L ((n + 1 : Nat) : Int) else some false) ?_) fun k => ?_
    · change Ev (fun k => if modOk L[n] = true then _ else _) _
      cases modOk L[n] with
      | true => simp only [if_true, Bool.true_and]; exact ih
      | false => exact Ev.now' fun k => by simp
    · simp only [spec_ChainOk.l0]
      rw [if_pos (by omega), if_pos (by omega), rdM_nat L n hn, wrap_succ (by omega)]
theorem sChain_ev (L : List S65) (hl : L.length ≤ 1048576) : Ev (fun k => spec_ChainOk.f k L) (chainM L) := by
  unfold spec_ChainOk.f chainM
  by_cases h : (L.length : Int) > 8
  · simp only [if_pos h]; exact Ev.to (Ev.now _) (by rw [decide_eq_false (show ¬ (L.length ≤ 8) by omega)]; rfl)
  · simp only [if_neg h]; exact Ev.to (sChain_loop L hl 0 (by omega)) (by rw [decide_eq_true (show L.length ≤ 8 by omega)]; simp)
theorem iChain_ev (L : List S65) (hl : L.length ≤ 1048576) : Ev (fun k => impl_ChainOk.f k L) (chainM L) := by
  unfold impl_ChainOk.f chainM
  by_cases h : (L.length : Int) ≤ 8
  · simp only [if_pos h]
    refine Ev.to (Ev.bind (iContainsM L hl (fun k z0_ z1_ z2_ z3_ z4_ z5_ z6_ z7_ z8_ z9_ z10_ z11_ z12_ z13_ z14_ z15_ z16_ => impl_ChainOk_1.f k z0_ z1_ z2_ z3_ z4_ z5_ z6_ z7_ z8_ z9_ z10_ z11_ z12_ z13_ z14_ z15_ z16_) (fun x => !modOk x) ?_) (f := fun _ t => some (!t)) (Ev.now _)) ?_
    · intro x _
      unfold impl_ChainOk_1.f
      exact Ev.bind (iModule_ev ..) (f := fun _ t => some (!t)) (Ev.now _)
    · rw [decide_eq_true (show L.length ≤ 8 by omega), Bool.true_and, Bool.eq_iff_iff]; simp
  · simp only [if_neg h]; exact Ev.to (Ev.now _) (by rw [decide_eq_false (show ¬ (L.length ≤ 8) by omega)]; rfl)

theorem take_set_next {α : Type} {l m : List α} {n : Nat} {x : α} (hl : n < l.length) (hm : m.length = n) (h : l.take n = m) : (l.set n x).take (n + 1) = m ++ [x] := by
  rw [List.take_set, List.take_add_one, h, List.getElem?_eq_getElem hl]
  simp only [Option.toList_some]
  rw [List.set_append_right _ _ (by omega), hm]
  simp

theorem map_take_next {α β : Type} (f : α → β) {l : List α} {n : Nat} (hn : n < l.length) : (l.take (n + 1)).map f = (l.take n).map f ++ [f l[n]] := by
  rw [List.take_add_one, List.getElem?_eq_getElem hn, List.map_append]; rfl


theorem rdLM_nat (l : List S69) (n : Nat) (h : n < l.length) : rd_T69 l (n : Int) = l[n] := by
  unfold rd_T69; rw [Int.toNat_natCast, getD_lt _ h]
def toM (x : S69) : S65 := ⟨x.f0, ⟨⟨x.f1.f0.f0, x.f1.f0.f1, x.f1.f0.f2, x.f1.f0.f3, x.f1.f0.f4⟩, x.f1.f1⟩, ⟨⟨x.f2.f0.f0, x.f2.f0.f1, x.f2.f0.f2, x.f2.f0.f3, x.f2.f0.f4⟩, x.f2.f1⟩, x.f3, x.f4, x.f5, x.f6⟩
theorem toMods_loop (l : List S69) (hl : l.length ≤ 1048576) : ∀ n, n ≤ l.length → ∀ acc : List S65, acc.length = l.length → acc.take n = (l.take n).map toM →
    Ev (fun k => laws_toModuleS.l0 k l acc (n : Int)) (l.map toM) := by
  refine down ?_ ?_
  · intro acc ha ht
    have e : acc = l.map toM := by rw [List.take_of_length_le (by omega), List.take_of_length_le (by omega)] at ht; exact ht
    subst e
    refine Ev.next (f := fun _ => some (l.map toM)) (Ev.now _) fun k => ?_
    simp only [laws_toModuleS.l0]; rw [if_neg (by omega)]
  · intro n hn ih acc ha ht
    refine Ev.next (ih (acc.set n (toM l[n])) (by simpa using ha) ?_) fun k => ?_
    · rw [map_take_next toM hn]
      exact take_set_next (by omega) (by rw [List.length_map, List.length_take]; omega) ht
    · simp only [laws_toModuleS.l0, laws_toModule.f, laws_toPrefix.f, laws_toAddr.f, Option.bind_some]
      rw [if_pos (by omega), if_pos (by omega), if_pos (by omega), rdLM_nat l n hn, wrap_succ (by omega), Int.toNat_natCast]
      rfl
theorem toMods_ev (l : List S69) (hl : l.length ≤ 1048576) : Ev (fun k => laws_toModuleS.f k l) (l.map toM) := by
  refine Ev.congr (fun k => ?_) (toMods_loop l hl 0 (by omega) (List.replicate l.length z65) (by simp) (by simp))
  unfold laws_toModuleS.f
  rw [if_pos (by omega), if_pos (by omega)]
  simp
theorem eqPrefix_eq (a b c d e f : Int) : laws_eqPrefix.f a b c d e f a b c d e f = some true := by
  simp [laws_eqPrefix.f, laws_eqAddr.f]
theorem eqMods_loop (l : List S65) (hl : l.length ≤ 1048576) : ∀ n, n ≤ l.length → Ev (fun k => laws_eqModuleS.l0 k l l (n : Int)) true := by
  refine down ?_ ?_
  · refine Ev.next (f := fun _ => some true) (Ev.now true) fun k => ?_
    simp only [laws_eqModuleS.l0]; rw [if_neg (by omega)]
  · intro n hn ih
    refine Ev.next ih fun k => ?_
    simp only [laws_eqModuleS.l0, laws_eqModule.f, eqPrefix_eq, Option.bind_some, if_true]
    rw [if_pos (by omega), if_pos (by omega), if_pos (by omega), wrap_succ (by omega)]
theorem eqMods_ev (l : List S65) (hl : l.length ≤ 1048576) : Ev (fun k => laws_eqModuleS.f k l l) true := by
  unfold laws_eqModuleS.f
  simp only [if_true]
  exact eqMods_loop l hl 0 (by omega)
theorem sRange_eq (a b : Int) : spec_l09Range.f a b = some (rangeM a b) := (range_eq a b).1
theorem iRange_eq (a b : Int) : impl_isRange.f a b = some (rangeM a b) := (range_eq a b).2
def tailM (x y z : Int) : Bool := decide (1 ≤ x ∧ x ≤ 8) && (decide (1 ≤ y ∧ y ≤ 10) && decide (1 ≤ z ∧ z ≤ 8))
def ruleM (u q a b c d p q' a' b' c' d' p' r e f g h x y z : Int) : Bool := decide (1 ≤ u ∧ u ≤ 9999) && (prefixOkM q a b c d p && (prefixOkM q' a' b' c' d' p' && (decide (-1 ≤ r ∧ r ≤ 255) && (rangeM e f && (rangeM g h && tailM x y z)))))
theorem iRule_ev (u q a b c d p q' a' b' c' d' p' r e f g h x y z : Int) : Ev (fun k => impl_RuleOk.f k u q a b c d p q' a' b' c' d' p' r e f g h x y z) (ruleM u q a b c d p q' a' b' c' d' p' r e f g h x y z) := by
  have hj : ∀ w : Bool, Ev (fun k => impl_RuleOk.j0 k w u q a b c d p q' a' b' c' d' p' r e f g h x y z) (!w && tailM x y z) := by
    intro w
    cases w with
    | true => exact Ev.next (f := fun _ => some false) (Ev.now _) fun k => by simp [impl_RuleOk.j0]
    | false =>
      refine Ev.next (f := fun _ => some (tailM x y z)) (Ev.now _) fun k => ?_
      simp only [impl_RuleOk.j0, within_eq, Option.bind_some, tailM]
      by_cases h1 : 1 ≤ x ∧ x ≤ 8 <;> by_cases h2 : 1 ≤ y ∧ y ≤ 10 <;> simp [h1, h2]
  unfold impl_RuleOk.f ruleM
  simp only [within_eq, iRange_eq, Option.bind_some]
  by_cases h1 : 1 ≤ u ∧ u ≤ 9999
  · simp only [decide_eq_true h1, if_true, Bool.true_and]
    refine Ev.bind (iPrefixOk_ev q a b c d p) ?_
    cases prefixOkM q a b c d p with
    | false => simp only [if_neg (show ¬ (false = true) by decide)]; exact Ev.to (hj true) (by simp)
    | true =>
      simp only [if_true, Bool.true_and]
      refine Ev.bind (iPrefixOk_ev q' a' b' c' d' p') ?_
      cases prefixOkM q' a' b' c' d' p' with
      | false => simp only [if_neg (show ¬ (false = true) by decide)]; exact Ev.to (hj true) (by simp)
      | true =>
        simp only [if_true, Bool.true_and]
        by_cases h2 : -1 ≤ r ∧ r ≤ 255
        · simp only [decide_eq_true h2, if_true, Bool.true_and]
          cases rangeM e f with
          | false => simp only [if_neg (show ¬ (false = true) by decide)]; exact Ev.to (hj true) (by simp)
          | true => simp only [if_true, Bool.true_and]; exact Ev.to (hj _) (by simp)
        · simp only [decide_eq_false h2, if_neg (show ¬ (false = true) by decide)]; exact Ev.to (hj true) (by simp)
  · simp only [decide_eq_false h1, if_neg (show ¬ (false = true) by decide)]; exact Ev.to (hj true) (by simp)
theorem sRule_ev (u q a b c d p q' a' b' c' d' p' r e f g h x y z : Int) : Ev (fun k => spec_RuleOk.f k u q a b c d p q' a' b' c' d' p' r e f g h x y z) (ruleM u q a b c d p q' a' b' c' d' p' r e f g h x y z) := by
  have hj : ∀ w : Bool, Ev (fun k => spec_RuleOk.j0 k w u q a b c d p q' a' b' c' d' p' r e f g h x y z) (!w && (rangeM e f && (rangeM g h && tailM x y z))) := by
    intro w
    cases w with
    | true => exact Ev.next (f := fun _ => some false) (Ev.now _) fun k => by simp [spec_RuleOk.j0]
    | false =>
      refine Ev.next (f := fun _ => some (rangeM e f && (rangeM g h && tailM x y z))) (Ev.now _) fun k => ?_
      simp only [spec_RuleOk.j0, sRange_eq, Option.bind_some, tailM]
      cases rangeM e f <;> cases rangeM g h <;> simp
      by_cases h1 : 1 ≤ x <;> by_cases h2 : x ≤ 8 <;> by_cases h3 : 1 ≤ y <;> by_cases h4 : y ≤ 10 <;> by_cases h5 : 1 ≤ z <;> simp [h1, h2, h3, h4, h5]
  unfold spec_RuleOk.f ruleM
  by_cases h1 : u < 1
  · simp only [if_pos h1]; exact Ev.to (hj true) (by rw [decide_eq_false (by omega)]; rfl)
  · simp only [if_neg h1]
    by_cases h2 : u > 9999
    · simp only [if_pos h2]; exact Ev.to (hj true) (by rw [decide_eq_false (by omega)]; rfl)
    · simp only [if_neg h2, decide_eq_true (show 1 ≤ u ∧ u ≤ 9999 by omega), Bool.true_and]
      refine Ev.bind (sPrefixOk_ev q a b c d p) ?_
      cases prefixOkM q a b c d p with
      | false => simp only [if_neg (show ¬ (false = true) by decide)]; exact Ev.to (hj true) (by simp)
      | true =>
        simp only [if_true, Bool.true_and]
        refine Ev.bind (sPrefixOk_ev q' a' b' c' d' p') ?_
        cases prefixOkM q' a' b' c' d' p' with
        | false => simp only [if_neg (show ¬ (false = true) by decide)]; exact Ev.to (hj true) (by simp)
        | true =>
          simp only [if_true, Bool.true_and]
          by_cases h3 : r < -1
          · simp only [if_pos h3]; exact Ev.to (hj true) (by rw [decide_eq_false (show ¬ (-1 ≤ r ∧ r ≤ 255) by omega)]; rfl)
          · simp only [if_neg h3]
            by_cases h4 : r > 255
            · exact Ev.to (hj _) (by rw [decide_eq_true h4, decide_eq_false (show ¬ (-1 ≤ r ∧ r ≤ 255) by omega)]; rfl)
            · exact Ev.to (hj _) (by rw [decide_eq_false h4, decide_eq_true (show -1 ≤ r ∧ r ≤ 255 by omega)]; rfl)
theorem l05_eq (a b : Int) : spec_l05In.f a b = some (decide (0 ≤ a ∧ a ≤ b)) := by
  unfold spec_l05In.f
  by_cases h : a ≥ 0
  · rw [if_pos h]; exact congrArg some (dec_iff (by omega))
  · rw [if_neg h]; exact congrArg some (dec_false (by omega))
def zero3 (x y z : Int) : Bool := decide (x = 0) && (decide (y = 0) && decide (z = 0))
theorem zero3_ev (x y z : Int) : Ev (fun k => impl_areZero.f k [x, y, z]) (zero3 x y z) := by
  have h3 : Ev (fun k => slices_IndexFunc_int_int.l0 k [x, y, z] (fun z0_ => impl_areZero_1.f z0_) 3 3) (-1) := Ev.next (f := fun _ => some (-1)) (Ev.now _) fun k => by simp [slices_IndexFunc_int_int.l0]
  have h2 : Ev (fun k => slices_IndexFunc_int_int.l0 k [x, y, z] (fun z0_ => impl_areZero_1.f z0_) 3 2) (if z = 0 then -1 else 2) := by
    by_cases h : z = 0
    · rw [if_pos h]; exact Ev.next h3 fun k => by simp [slices_IndexFunc_int_int.l0, impl_areZero_1.f, rd, h, show wrap64 3 = 3 from wrap_id (by omega) (by omega)]
    · rw [if_neg h]; exact Ev.next (f := fun _ => some 2) (Ev.now _) fun k => by simp [slices_IndexFunc_int_int.l0, impl_areZero_1.f, rd, h]
  have h1 : Ev (fun k => slices_IndexFunc_int_int.l0 k [x, y, z] (fun z0_ => impl_areZero_1.f z0_) 3 1) (if y = 0 then (if z = 0 then -1 else 2) else 1) := by
    by_cases h : y = 0
    · rw [if_pos h]; exact Ev.next h2 fun k => by simp [slices_IndexFunc_int_int.l0, impl_areZero_1.f, rd, h, show wrap64 2 = 2 from wrap_id (by omega) (by omega)]
    · rw [if_neg h]; exact Ev.next (f := fun _ => some 1) (Ev.now _) fun k => by simp [slices_IndexFunc_int_int.l0, impl_areZero_1.f, rd, h]
  have h0 : Ev (fun k => slices_IndexFunc_int_int.l0 k [x, y, z] (fun z0_ => impl_areZero_1.f z0_) 3 0) (if x = 0 then (if y = 0 then (if z = 0 then -1 else 2) else 1) else 0) := by
    by_cases h : x = 0
    · rw [if_pos h]; exact Ev.next h1 fun k => by simp [slices_IndexFunc_int_int.l0, impl_areZero_1.f, rd, h, show wrap64 1 = 1 from wrap_id (by omega) (by omega)]
    · rw [if_neg h]; exact Ev.next (f := fun _ => some 0) (Ev.now _) fun k => by simp [slices_IndexFunc_int_int.l0, impl_areZero_1.f, rd, h]
  unfold impl_areZero.f slices_ContainsFunc_int_int.f slices_IndexFunc_int_int.f
  refine Ev.to (Ev.bind (Ev.bind h0 (f := fun _ t => some (decide (t ≥ 0))) (Ev.now _)) (f := fun _ t => some (!t)) (Ev.now _)) ?_
  unfold zero3
  by_cases hx : x = 0 <;> by_cases hy : y = 0 <;> by_cases hz : z = 0 <;> simp [hx, hy, hz]
def zR (a3 a4 a5 a6 a7 a8 a9 a10 a11 a12 a13 a14 a15 a16 a17 a18 a19 a20 a21 a22 a23 : Int) : Bool := (a3 == 0 && (((a4 == 0 && (a5 == 0 && (a6 == 0 && (a7 == 0 && (a8 == 0))))) && (a9 == 0)) && (((a10 == 0 && (a11 == 0 && (a12 == 0 && (a13 == 0 && (a14 == 0))))) && (a15 == 0)) && (a16 == 0 && (a17 == 0 && (a18 == 0 && (a19 == 0 && (a20 == 0 && (a21 == 0 && (a22 == 0 && (a23 == 0)))))))))))
def zL (a24 a25 a26 a27 : Int) (b : Bool) : Bool := (a24 == 0 && (a25 == 0 && (a26 == 0 && (a27 == 0 && (!b)))))
theorem limI_eq (a24 a25 a26 a27 : Int) (b : Bool) : impl_LimitsOk.f a24 a25 a26 a27 b = some (decide (1 ≤ a24 ∧ a24 ≤ 64) && (decide (1 ≤ a25 ∧ a25 ≤ 100000) && (decide (1 ≤ a26 ∧ a26 ≤ 1000000) && decide (0 ≤ a27 ∧ a27 ≤ 100000)))) := by
  unfold impl_LimitsOk.f
  simp only [within_eq, Option.bind_some]
  by_cases h1 : 1 ≤ a24 ∧ a24 ≤ 64 <;> by_cases h2 : 1 ≤ a25 ∧ a25 ≤ 100000 <;> by_cases h3 : 1 ≤ a26 ∧ a26 ≤ 1000000 <;> simp [h1, h2, h3]
theorem limS_eq (a24 a25 a26 a27 : Int) (b : Bool) : spec_LimitsOk.f a24 a25 a26 a27 b = some (decide (1 ≤ a24 ∧ a24 ≤ 64) && (decide (1 ≤ a25 ∧ a25 ≤ 100000) && (decide (1 ≤ a26 ∧ a26 ≤ 1000000) && decide (0 ≤ a27 ∧ a27 ≤ 100000)))) := by
  unfold spec_LimitsOk.f
  by_cases h1 : a24 < 1
  · rw [if_pos h1, decide_eq_false (show ¬ (1 ≤ a24 ∧ a24 ≤ 64) by omega)]; rfl
  · rw [if_neg h1]
    by_cases h2 : a24 > 64
    · rw [if_pos h2, decide_eq_false (show ¬ (1 ≤ a24 ∧ a24 ≤ 64) by omega)]; rfl
    · rw [if_neg h2, decide_eq_true (show 1 ≤ a24 ∧ a24 ≤ 64 by omega)]
      by_cases h3 : a25 < 1
      · rw [if_pos h3, decide_eq_false (show ¬ (1 ≤ a25 ∧ a25 ≤ 100000) by omega)]; rfl
      · rw [if_neg h3]
        by_cases h4 : a25 > 100000
        · rw [if_pos h4, decide_eq_false (show ¬ (1 ≤ a25 ∧ a25 ≤ 100000) by omega)]; rfl
        · rw [if_neg h4, decide_eq_true (show 1 ≤ a25 ∧ a25 ≤ 100000 by omega)]
          by_cases h5 : 1 ≤ a26 <;> by_cases h6 : a26 ≤ 1000000 <;> by_cases h7 : 0 ≤ a27 <;> simp [h5, h6, h7]
def cmdM (a0 a1 a2 a3 a4 a5 a6 a7 a8 a9 a10 a11 a12 a13 a14 a15 a16 a17 a18 a19 a20 a21 a22 a23 a24 a25 a26 a27 : Int) (b : Bool) (L : List S65) : Bool := if a0 = 1 then (zR a3 a4 a5 a6 a7 a8 a9 a10 a11 a12 a13 a14 a15 a16 a17 a18 a19 a20 a21 a22 a23 && (zL a24 a25 a26 a27 b && decide ((L.length : Int) = 0))) && (decide (1 ≤ a1 ∧ a1 ≤ 8) && decide (1 ≤ a2 ∧ a2 ≤ 10)) else if a0 = 2 then (zR a3 a4 a5 a6 a7 a8 a9 a10 a11 a12 a13 a14 a15 a16 a17 a18 a19 a20 a21 a22 a23 && (zL a24 a25 a26 a27 b && decide ((L.length : Int) = 0))) && (decide (1 ≤ a1 ∧ a1 ≤ 8) && (a2 == 0)) else if a0 = 3 then zero3 a1 a2 (L.length : Int) && (zL a24 a25 a26 a27 b && ruleM a3 a4 a5 a6 a7 a8 a9 a10 a11 a12 a13 a14 a15 a16 a17 a18 a19 a20 a21 a22 a23) else if a0 = 4 then (zR a3 a4 a5 a6 a7 a8 a9 a10 a11 a12 a13 a14 a15 a16 a17 a18 a19 a20 a21 a22 a23 && (zL a24 a25 a26 a27 b && decide ((L.length : Int) = 0))) && (decide (1 ≤ a1 ∧ a1 ≤ 9999) && (a2 == 0)) else if a0 = 5 then zero3 a1 a2 (L.length : Int) && (zR a3 a4 a5 a6 a7 a8 a9 a10 a11 a12 a13 a14 a15 a16 a17 a18 a19 a20 a21 a22 a23 && (decide (1 ≤ a24 ∧ a24 ≤ 64) && (decide (1 ≤ a25 ∧ a25 ≤ 100000) && (decide (1 ≤ a26 ∧ a26 ≤ 1000000) && decide (0 ≤ a27 ∧ a27 ≤ 100000))))) else if a0 = 6 then (zR a3 a4 a5 a6 a7 a8 a9 a10 a11 a12 a13 a14 a15 a16 a17 a18 a19 a20 a21 a22 a23 && (zL a24 a25 a26 a27 b && decide ((L.length : Int) = 0))) && (decide (0 ≤ a1 ∧ a1 ≤ 1) && (a2 == 0)) else if a0 = 7 then decide (a2 = 0) && (zR a3 a4 a5 a6 a7 a8 a9 a10 a11 a12 a13 a14 a15 a16 a17 a18 a19 a20 a21 a22 a23 && (zL a24 a25 a26 a27 b && (decide (1 ≤ a1 ∧ a1 ≤ 8) && chainM L))) else if a0 = 8 then (zR a3 a4 a5 a6 a7 a8 a9 a10 a11 a12 a13 a14 a15 a16 a17 a18 a19 a20 a21 a22 a23 && (zL a24 a25 a26 a27 b && decide ((L.length : Int) = 0))) && (decide (1 ≤ a1 ∧ a1 ≤ 1000) && (a2 == 0)) else false
theorem noneA_eq (a0 a1 a2 a3 a4 a5 a6 a7 a8 a9 a10 a11 a12 a13 a14 a15 a16 a17 a18 a19 a20 a21 a22 a23 a24 a25 a26 a27 : Int) (b : Bool) (L : List S65) : spec_l22None.f a0 a1 a2 a3 a4 a5 a6 a7 a8 a9 a10 a11 a12 a13 a14 a15 a16 a17 a18 a19 a20 a21 a22 a23 a24 a25 a26 a27 b L true true false false false = some (decide ((L.length : Int) = 0) && (zR a3 a4 a5 a6 a7 a8 a9 a10 a11 a12 a13 a14 a15 a16 a17 a18 a19 a20 a21 a22 a23 && zL a24 a25 a26 a27 b)) := by
  unfold spec_l22None.f
  simp only [if_true, if_neg (show ¬ (false = true) by decide)]
  change (if (L.length : Int) = 0 then (if zR a3 a4 a5 a6 a7 a8 a9 a10 a11 a12 a13 a14 a15 a16 a17 a18 a19 a20 a21 a22 a23 = true then (some (zL a24 a25 a26 a27 b)) else (some false)) else (some false)) = _
  generalize zR a3 a4 a5 a6 a7 a8 a9 a10 a11 a12 a13 a14 a15 a16 a17 a18 a19 a20 a21 a22 a23 = Z
  generalize zL a24 a25 a26 a27 b = Y
  by_cases h0 : L = [] <;> cases Z <;> cases Y <;> simp [h0]
theorem noneB_eq (a0 a1 a2 a3 a4 a5 a6 a7 a8 a9 a10 a11 a12 a13 a14 a15 a16 a17 a18 a19 a20 a21 a22 a23 a24 a25 a26 a27 : Int) (b : Bool) (L : List S65) : spec_l22None.f a0 a1 a2 a3 a4 a5 a6 a7 a8 a9 a10 a11 a12 a13 a14 a15 a16 a17 a18 a19 a20 a21 a22 a23 a24 a25 a26 a27 b L true false false false false = some (decide (a2 = 0) && (decide ((L.length : Int) = 0) && (zR a3 a4 a5 a6 a7 a8 a9 a10 a11 a12 a13 a14 a15 a16 a17 a18 a19 a20 a21 a22 a23 && zL a24 a25 a26 a27 b))) := by
  unfold spec_l22None.f
  simp only [if_true, if_neg (show ¬ (false = true) by decide)]
  change (if a2 = 0 then (if (L.length : Int) = 0 then (if zR a3 a4 a5 a6 a7 a8 a9 a10 a11 a12 a13 a14 a15 a16 a17 a18 a19 a20 a21 a22 a23 = true then (some (zL a24 a25 a26 a27 b)) else (some false)) else (some false)) else (some false)) = _
  generalize zR a3 a4 a5 a6 a7 a8 a9 a10 a11 a12 a13 a14 a15 a16 a17 a18 a19 a20 a21 a22 a23 = Z
  generalize zL a24 a25 a26 a27 b = Y
  by_cases h0 : a2 = 0 <;> by_cases h1 : L = [] <;> cases Z <;> cases Y <;> simp [h0, h1]
theorem noneC_eq (a0 a1 a2 a3 a4 a5 a6 a7 a8 a9 a10 a11 a12 a13 a14 a15 a16 a17 a18 a19 a20 a21 a22 a23 a24 a25 a26 a27 : Int) (b : Bool) (L : List S65) : spec_l22None.f a0 a1 a2 a3 a4 a5 a6 a7 a8 a9 a10 a11 a12 a13 a14 a15 a16 a17 a18 a19 a20 a21 a22 a23 a24 a25 a26 a27 b L false false true false false = some (zero3 a1 a2 (L.length : Int) && zL a24 a25 a26 a27 b) := by
  unfold spec_l22None.f
  simp only [if_true, if_neg (show ¬ (false = true) by decide)]
  change (if a1 = 0 then (if a2 = 0 then (if (L.length : Int) = 0 then (some (zL a24 a25 a26 a27 b)) else (some false)) else (some false)) else (some false)) = _
  generalize zR a3 a4 a5 a6 a7 a8 a9 a10 a11 a12 a13 a14 a15 a16 a17 a18 a19 a20 a21 a22 a23 = Z
  generalize zL a24 a25 a26 a27 b = Y
  unfold zero3
  by_cases h0 : a1 = 0 <;> by_cases h1 : a2 = 0 <;> by_cases h2 : L = [] <;> cases Z <;> cases Y <;> simp [h0, h1, h2]
theorem noneD_eq (a0 a1 a2 a3 a4 a5 a6 a7 a8 a9 a10 a11 a12 a13 a14 a15 a16 a17 a18 a19 a20 a21 a22 a23 a24 a25 a26 a27 : Int) (b : Bool) (L : List S65) : spec_l22None.f a0 a1 a2 a3 a4 a5 a6 a7 a8 a9 a10 a11 a12 a13 a14 a15 a16 a17 a18 a19 a20 a21 a22 a23 a24 a25 a26 a27 b L false false false true false = some (zero3 a1 a2 (L.length : Int) && zR a3 a4 a5 a6 a7 a8 a9 a10 a11 a12 a13 a14 a15 a16 a17 a18 a19 a20 a21 a22 a23) := by
  unfold spec_l22None.f
  simp only [if_true, if_neg (show ¬ (false = true) by decide)]
  change (if a1 = 0 then (if a2 = 0 then (if (L.length : Int) = 0 then (if zR a3 a4 a5 a6 a7 a8 a9 a10 a11 a12 a13 a14 a15 a16 a17 a18 a19 a20 a21 a22 a23 = true then (some true) else (some false)) else (some false)) else (some false)) else (some false)) = _
  generalize zR a3 a4 a5 a6 a7 a8 a9 a10 a11 a12 a13 a14 a15 a16 a17 a18 a19 a20 a21 a22 a23 = Z
  generalize zL a24 a25 a26 a27 b = Y
  unfold zero3
  by_cases h0 : a1 = 0 <;> by_cases h1 : a2 = 0 <;> by_cases h2 : L = [] <;> cases Z <;> cases Y <;> simp [h0, h1, h2]
theorem noneE_eq (a0 a1 a2 a3 a4 a5 a6 a7 a8 a9 a10 a11 a12 a13 a14 a15 a16 a17 a18 a19 a20 a21 a22 a23 a24 a25 a26 a27 : Int) (b : Bool) (L : List S65) : spec_l22None.f a0 a1 a2 a3 a4 a5 a6 a7 a8 a9 a10 a11 a12 a13 a14 a15 a16 a17 a18 a19 a20 a21 a22 a23 a24 a25 a26 a27 b L true false false false true = some (decide (a2 = 0) && (zR a3 a4 a5 a6 a7 a8 a9 a10 a11 a12 a13 a14 a15 a16 a17 a18 a19 a20 a21 a22 a23 && zL a24 a25 a26 a27 b)) := by
  unfold spec_l22None.f
  simp only [if_true, if_neg (show ¬ (false = true) by decide)]
  change (if a2 = 0 then (if zR a3 a4 a5 a6 a7 a8 a9 a10 a11 a12 a13 a14 a15 a16 a17 a18 a19 a20 a21 a22 a23 = true then (some (zL a24 a25 a26 a27 b)) else (some false)) else (some false)) = _
  generalize zR a3 a4 a5 a6 a7 a8 a9 a10 a11 a12 a13 a14 a15 a16 a17 a18 a19 a20 a21 a22 a23 = Z
  generalize zL a24 a25 a26 a27 b = Y
  by_cases h0 : a2 = 0 <;> cases Z <;> cases Y <;> simp [h0]
theorem sCmd_ev (a0 a1 a2 a3 a4 a5 a6 a7 a8 a9 a10 a11 a12 a13 a14 a15 a16 a17 a18 a19 a20 a21 a22 a23 a24 a25 a26 a27 : Int) (b : Bool) (L : List S65) (hl : L.length ≤ 1048576) : Ev (fun k => spec_CmdOk.f k a0 a1 a2 a3 a4 a5 a6 a7 a8 a9 a10 a11 a12 a13 a14 a15 a16 a17 a18 a19 a20 a21 a22 a23 a24 a25 a26 a27 b L) (cmdM a0 a1 a2 a3 a4 a5 a6 a7 a8 a9 a10 a11 a12 a13 a14 a15 a16 a17 a18 a19 a20 a21 a22 a23 a24 a25 a26 a27 b L) := by
  unfold spec_CmdOk.f cmdM
  simp only [noneA_eq, noneB_eq, noneC_eq, noneD_eq, noneE_eq, Option.bind_some, l05_eq, limS_eq]
  have hR := sRule_ev a3 a4 a5 a6 a7 a8 a9 a10 a11 a12 a13 a14 a15 a16 a17 a18 a19 a20 a21 a22 a23
  have hC := sChain_ev L hl
  generalize zR a3 a4 a5 a6 a7 a8 a9 a10 a11 a12 a13 a14 a15 a16 a17 a18 a19 a20 a21 a22 a23 = Z
  generalize zL a24 a25 a26 a27 b = Y
  generalize ruleM a3 a4 a5 a6 a7 a8 a9 a10 a11 a12 a13 a14 a15 a16 a17 a18 a19 a20 a21 a22 a23 = R at hR
  by_cases c1 : a0 = 1
  · simp only [if_pos c1]
    refine Ev.now' fun k => ?_
    by_cases h0 : L = [] <;> by_cases h1 : 1 ≤ a1 <;> by_cases h2 : a1 ≤ 8 <;> by_cases h3 : 1 ≤ a2 <;> cases Z <;> cases Y <;> simp [h0, h1, h2, h3]
  simp only [if_neg c1]
  by_cases c2 : a0 = 2
  · simp only [if_pos c2]
    refine Ev.now' fun k => ?_
    by_cases h0 : L = [] <;> by_cases h1 : 1 ≤ a1 <;> by_cases h3 : a2 = 0 <;> cases Z <;> cases Y <;> simp [h0, h1, h3]
  simp only [if_neg c2]
  by_cases c3 : a0 = 3
  · simp only [if_pos c3]
    cases zero3 a1 a2 (L.length : Int) <;> cases Y <;> simp only [Bool.true_and, Bool.false_and, Bool.and_false, Bool.and_true, if_true, if_neg (show ¬ (false = true) by decide)]
    · exact Ev.now _
    · exact Ev.now _
    · exact Ev.now _
    · exact Ev.bind hR (f := fun _ t => some t) (Ev.now _)
  simp only [if_neg c3]
  by_cases c4 : a0 = 4
  · simp only [if_pos c4]
    refine Ev.now' fun k => ?_
    by_cases h0 : L = [] <;> by_cases h1 : 1 ≤ a1 <;> by_cases h3 : a2 = 0 <;> cases Z <;> cases Y <;> simp [h0, h1, h3]
  simp only [if_neg c4]
  by_cases c5 : a0 = 5
  · simp only [if_pos c5]
    refine Ev.now' fun k => ?_
    cases zero3 a1 a2 (L.length : Int) <;> cases Z <;> simp
  simp only [if_neg c5]
  by_cases c6 : a0 = 6
  · simp only [if_pos c6]
    refine Ev.now' fun k => ?_
    by_cases h0 : L = [] <;> by_cases h3 : a2 = 0 <;> cases Z <;> cases Y <;> simp [h0, h3]
  simp only [if_neg c6]
  by_cases c7 : a0 = 7
  · simp only [if_pos c7]
    by_cases h3 : a2 = 0 <;> cases Z <;> cases Y <;> simp only [h3, decide_true, decide_false, Bool.true_and, Bool.false_and, Bool.and_false, if_true, if_neg (show ¬ (false = true) by decide)]
    all_goals first
      | exact Ev.now _
      | (by_cases h1 : a1 ≥ 1
         · simp only [if_pos h1]
           by_cases h2 : a1 ≤ 8
           · simp only [if_pos h2]; exact Ev.to (Ev.bind hC (f := fun _ t => some t) (Ev.now _)) (by rw [decide_eq_true (show 1 ≤ a1 ∧ a1 ≤ 8 by omega)]; rfl)
           · simp only [if_neg h2]; exact Ev.to (Ev.now _) (by rw [decide_eq_false (show ¬ (1 ≤ a1 ∧ a1 ≤ 8) by omega)]; rfl)
         · simp only [if_neg h1]; exact Ev.to (Ev.now _) (by rw [decide_eq_false (show ¬ (1 ≤ a1 ∧ a1 ≤ 8) by omega)]; rfl))
  simp only [if_neg c7]
  by_cases c8 : a0 = 8
  · simp only [if_pos c8]
    refine Ev.now' fun k => ?_
    by_cases h0 : L = [] <;> by_cases h1 : 1 ≤ a1 <;> by_cases h3 : a2 = 0 <;> cases Z <;> cases Y <;> simp [h0, h1, h3]
  · simp only [if_neg c8]; exact Ev.now _
theorem iCmd0_ev (a0 a1 a2 a3 a4 a5 a6 a7 a8 a9 a10 a11 a12 a13 a14 a15 a16 a17 a18 a19 a20 a21 a22 a23 a24 a25 a26 a27 : Int) (b : Bool) (L : List S65) (hl : L.length ≤ 1048576) (t : Bool) (ht : t = (zR a3 a4 a5 a6 a7 a8 a9 a10 a11 a12 a13 a14 a15 a16 a17 a18 a19 a20 a21 a22 a23 && (zL a24 a25 a26 a27 b && decide ((L.length : Int) = 0)))) : Ev (fun k => impl_CmdOk.j0 k t a0 a1 a2 a3 a4 a5 a6 a7 a8 a9 a10 a11 a12 a13 a14 a15 a16 a17 a18 a19 a20 a21 a22 a23 a24 a25 a26 a27 b L) (cmdM a0 a1 a2 a3 a4 a5 a6 a7 a8 a9 a10 a11 a12 a13 a14 a15 a16 a17 a18 a19 a20 a21 a22 a23 a24 a25 a26 a27 b L) := by
  have hR := iRule_ev a3 a4 a5 a6 a7 a8 a9 a10 a11 a12 a13 a14 a15 a16 a17 a18 a19 a20 a21 a22 a23
  have hC := iChain_ev L hl
  have hZ := zero3_ev a1 a2 (L.length : Int)
  refine Ev.next (f := fun k => if a0 = 1 then (if t = true then ((impl_within.f a1 1 8).bind fun t460 => (if t460 = true then ((impl_isWeight.f a2).bind fun t461 => (some t461)) else (some false))) else (some false)) else (if a0 = 2 then (if t = true then ((impl_within.f a1 1 8).bind fun t462 => (if t462 = true then (some (a2 == 0)) else (some false))) else (some false)) else (if a0 = 3 then ((impl_areZero.f k (([a1, a2, (L.length : Int)] : List Int))).bind fun t466 => (if t466 = true then (if zL a24 a25 a26 a27 b = true then ((impl_RuleOk.f k a3 a4 a5 a6 a7 a8 a9 a10 a11 a12 a13 a14 a15 a16 a17 a18 a19 a20 a21 a22 a23).bind fun t467 => (some t467)) else (some false)) else (some false))) else (if a0 = 4 then (if t = true then ((impl_within.f a1 1 9999).bind fun t468 => (if t468 = true then (some (a2 == 0)) else (some false))) else (some false)) else (if a0 = 5 then ((impl_areZero.f k (([a1, a2, (L.length : Int)] : List Int))).bind fun t472 => (if t472 = true then (if zR a3 a4 a5 a6 a7 a8 a9 a10 a11 a12 a13 a14 a15 a16 a17 a18 a19 a20 a21 a22 a23 = true then ((impl_LimitsOk.f a24 a25 a26 a27 b).bind fun t473 => (some t473)) else (some false)) else (some false))) else (if a0 = 6 then (if t = true then ((impl_within.f a1 0 1).bind fun t474 => (if t474 = true then (some (a2 == 0)) else (some false))) else (some false)) else (if a0 = 7 then (if a2 = 0 then (if zR a3 a4 a5 a6 a7 a8 a9 a10 a11 a12 a13 a14 a15 a16 a17 a18 a19 a20 a21 a22 a23 = true then (if zL a24 a25 a26 a27 b = true then ((impl_within.f a1 1 8).bind fun t475 => (if t475 = true then ((impl_ChainOk.f k L).bind fun t476 => (some t476)) else (some false))) else (some false)) else (some false)) else (some false)) else (if a0 = 8 then (if t = true then ((impl_within.f a1 1 1000).bind fun t477 => (if t477 = true then (some (a2 == 0)) else (some false))) else (some false)) else (some false)))))))) ) ?_ fun k => by simp only [impl_CmdOk.j0]; rfl
  unfold cmdM
  rw [← ht]
  simp only [within_eq, Option.bind_some, limI_eq, impl_isWeight.f]
  generalize zR a3 a4 a5 a6 a7 a8 a9 a10 a11 a12 a13 a14 a15 a16 a17 a18 a19 a20 a21 a22 a23 = Z
  generalize zL a24 a25 a26 a27 b = Y
  generalize ruleM a3 a4 a5 a6 a7 a8 a9 a10 a11 a12 a13 a14 a15 a16 a17 a18 a19 a20 a21 a22 a23 = R at hR
  by_cases c1 : a0 = 1
  · simp only [if_pos c1]
    refine Ev.now' fun k => ?_
    by_cases h1 : 1 ≤ a1 ∧ a1 ≤ 8 <;> cases t <;> simp [h1]
  simp only [if_neg c1]
  by_cases c2 : a0 = 2
  · simp only [if_pos c2]
    refine Ev.now' fun k => ?_
    by_cases h1 : 1 ≤ a1 ∧ a1 ≤ 8 <;> cases t <;> simp [h1]
  simp only [if_neg c2]
  by_cases c3 : a0 = 3
  · simp only [if_pos c3]
    refine Ev.bind hZ ?_
    cases zero3 a1 a2 (L.length : Int) <;> cases Y <;> simp only [Bool.true_and, Bool.false_and, if_true, if_neg (show ¬ (false = true) by decide)]
    · exact Ev.now _
    · exact Ev.now _
    · exact Ev.now _
    · exact Ev.bind hR (f := fun _ t => some t) (Ev.now _)
  simp only [if_neg c3]
  by_cases c4 : a0 = 4
  · simp only [if_pos c4]
    refine Ev.now' fun k => ?_
    by_cases h1 : 1 ≤ a1 ∧ a1 ≤ 9999 <;> cases t <;> simp [h1]
  simp only [if_neg c4]
  by_cases c5 : a0 = 5
  · simp only [if_pos c5]
    refine Ev.bind hZ ?_
    refine Ev.now' fun k => ?_
    cases zero3 a1 a2 (L.length : Int) <;> cases Z <;> simp
  simp only [if_neg c5]
  by_cases c6 : a0 = 6
  · simp only [if_pos c6]
    refine Ev.now' fun k => ?_
    by_cases h1 : 0 ≤ a1 ∧ a1 ≤ 1 <;> cases t <;> simp [h1]
  simp only [if_neg c6]
  by_cases c7 : a0 = 7
  · simp only [if_pos c7]
    by_cases h3 : a2 = 0 <;> cases Z <;> cases Y <;> simp only [h3, decide_true, decide_false, Bool.true_and, Bool.false_and, if_true, if_false, if_neg (show ¬ (false = true) by decide)]
    all_goals first
      | exact Ev.now _
      | (by_cases h1 : 1 ≤ a1 ∧ a1 ≤ 8
         · simp only [decide_eq_true h1, if_true, Bool.true_and]; exact Ev.bind hC (f := fun _ t => some t) (Ev.now _)
         · simp only [decide_eq_false h1, if_neg (show ¬ (false = true) by decide), Bool.false_and]; exact Ev.now _)
  simp only [if_neg c7]
  by_cases c8 : a0 = 8
  · simp only [if_pos c8]
    refine Ev.now' fun k => ?_
    by_cases h1 : 1 ≤ a1 ∧ a1 ≤ 1000 <;> cases t <;> simp [h1]
  · simp only [if_neg c8]; exact Ev.now _
theorem iCmd_ev (a0 a1 a2 a3 a4 a5 a6 a7 a8 a9 a10 a11 a12 a13 a14 a15 a16 a17 a18 a19 a20 a21 a22 a23 a24 a25 a26 a27 : Int) (b : Bool) (L : List S65) (hl : L.length ≤ 1048576) : Ev (fun k => impl_CmdOk.f k a0 a1 a2 a3 a4 a5 a6 a7 a8 a9 a10 a11 a12 a13 a14 a15 a16 a17 a18 a19 a20 a21 a22 a23 a24 a25 a26 a27 b L) (cmdM a0 a1 a2 a3 a4 a5 a6 a7 a8 a9 a10 a11 a12 a13 a14 a15 a16 a17 a18 a19 a20 a21 a22 a23 a24 a25 a26 a27 b L) := by
  have h := iCmd0_ev a0 a1 a2 a3 a4 a5 a6 a7 a8 a9 a10 a11 a12 a13 a14 a15 a16 a17 a18 a19 a20 a21 a22 a23 a24 a25 a26 a27 b L hl
  unfold impl_CmdOk.f
  change Ev (fun k => if zR a3 a4 a5 a6 a7 a8 a9 a10 a11 a12 a13 a14 a15 a16 a17 a18 a19 a20 a21 a22 a23 = true then (if zL a24 a25 a26 a27 b = true then impl_CmdOk.j0 k ((L.length : Int) == 0) a0 a1 a2 a3 a4 a5 a6 a7 a8 a9 a10 a11 a12 a13 a14 a15 a16 a17 a18 a19 a20 a21 a22 a23 a24 a25 a26 a27 b L else impl_CmdOk.j0 k false a0 a1 a2 a3 a4 a5 a6 a7 a8 a9 a10 a11 a12 a13 a14 a15 a16 a17 a18 a19 a20 a21 a22 a23 a24 a25 a26 a27 b L) else impl_CmdOk.j0 k false a0 a1 a2 a3 a4 a5 a6 a7 a8 a9 a10 a11 a12 a13 a14 a15 a16 a17 a18 a19 a20 a21 a22 a23 a24 a25 a26 a27 b L) _
  cases hz : zR a3 a4 a5 a6 a7 a8 a9 a10 a11 a12 a13 a14 a15 a16 a17 a18 a19 a20 a21 a22 a23 with
  | false => simp only [if_neg (show ¬ (false = true) by decide)]; exact h false (by rw [hz]; rfl)
  | true =>
    simp only [if_true]
    cases hy : zL a24 a25 a26 a27 b with
    | false => simp only [if_neg (show ¬ (false = true) by decide)]; exact h false (by rw [hz, hy]; rfl)
    | true => simp only [if_true]; exact h _ (by rw [hz, hy, Bool.true_and, Bool.true_and]; by_cases e : L = [] <;> simp [e])
theorem eqCmd_ev (a0 a1 a2 a3 a4 a5 a6 a7 a8 a9 a10 a11 a12 a13 a14 a15 a16 a17 a18 a19 a20 a21 a22 a23 a24 a25 a26 a27 : Int) (b : Bool) (L : List S65) (hl : L.length ≤ 1048576) : Ev (fun k => laws_eqCmd.f k a0 a1 a2 a3 a4 a5 a6 a7 a8 a9 a10 a11 a12 a13 a14 a15 a16 a17 a18 a19 a20 a21 a22 a23 a24 a25 a26 a27 b L a0 a1 a2 a3 a4 a5 a6 a7 a8 a9 a10 a11 a12 a13 a14 a15 a16 a17 a18 a19 a20 a21 a22 a23 a24 a25 a26 a27 b L) true := by
  unfold laws_eqCmd.f laws_eqRule.f laws_eqLimits.f
  simp only [eqPrefix_eq, Option.bind_some, if_true, bne_self_eq_false, if_neg (show ¬ (false = true) by decide)]
  exact Ev.bind (eqMods_ev L hl) (Ev.now' fun k => by simp)
theorem FnExactCmdOk : laws_FnExactCmdOk.Pure := by
  intro y0 hy0
  refine Ev.rounds ?_
  have hm : maxLen = 9223372036854775807 := rfl
  unfold laws_FnExactCmdOk.f laws_szCmd.f laws_szModuleS.f
  have hlen : y0.f5.length ≤ maxLen := by first | exact hy0.2.2.2.2.2.1 | exact hy0.2.2.2.2.2 | exact hy0.1 | exact hy0.2.1 | exact hy0 | (simp only [OK32] at hy0; omega)
  rw [wrap_id (x := 1048576 - (y0.f5.length : Int)) (by omega) (by omega)]
  by_cases hn : 1048576 - (y0.f5.length : Int) < 0
  · simp only [if_pos hn, Option.bind_some]
    exact Ev.now' fun k => by simp
  · simp only [if_neg hn, Option.bind_some]
    have hl : (y0.f5.map toM).length ≤ 1048576 := by simp; omega
    have hT : Ev (fun k => laws_toModuleS.f k y0.f5) (y0.f5.map toM) := toMods_ev _ (by omega)
    unfold laws_toCmd.f laws_toRule.f laws_toPrefix.f laws_toAddr.f laws_toLimits.f
    simp only [Option.bind_some]
    refine Ev.bind (Ev.bind hT (Ev.now _)) (Ev.bind (sCmd_ev _ _ _ _ _ _ _ _ _ _ _ _ _ _ _ _ _ _ _ _ _ _ _ _ _ _ _ _ _ _ hl) (Ev.bind (Ev.bind hT (Ev.now _)) (Ev.bind (iCmd_ev _ _ _ _ _ _ _ _ _ _ _ _ _ _ _ _ _ _ _ _ _ _ _ _ _ _ _ _ _ _ hl) ?_)))
    simp only [bne_self_eq_false, if_neg (show ¬ (false = true) by decide)]
    refine Ev.bind (Ev.bind hT (Ev.now _)) (Ev.bind (eqCmd_ev _ _ _ _ _ _ _ _ _ _ _ _ _ _ _ _ _ _ _ _ _ _ _ _ _ _ _ _ _ _ hl) ?_)
    exact Ev.now' fun k => by simp

end Go.Proofs.Ytjhgkonacdimfab.Pure
