/- Words of this session's: a map with ints as keys that the call makes, and a slice compared with nil. No condition beyond those that stand in each line. -/
import Derived.Maps.Keyed
import Derived.Test.YtcdangcjbijfkabVWords
namespace Go.Proofs.YtcdangcjbijfkabV
open Go.RowKit Go.Proofs.YtcdangcjbijfkabW.PrintWords Go.Proofs.YtcdangcjbijfkabW.PrintLast Go.Proofs.YtcdangcjbijfkabW.PrintMore
section
variable {α : Type}
/-- Where a key stands among the entries, and what it leads to. -/
def mfind : List (Int × α) → Int → Nat → Option (Nat × α)
  | [], _, _ => none
  | (k, v) :: r, x, i => if x = k then some (i, v) else mfind r x (i + 1)
/-- What a key leads to, or the zero value. -/
def mlook (d : α) (M : List (Int × α)) (x : Int) : α := ((mfind M x 0).map (·.2)).getD d
/-- The map with this key led to this value. -/
def mput (M : List (Int × α)) (x : Int) (v : α) : List (Int × α) := match mfind M x 0 with
  | some (j, _) => M.set j (x, v)
  | none => M ++ [(x, v)]
/-- The entries, as they lie in memory. -/
def ments (enc : α → Value) : List (Int × α) → Nat → List MapEntry
  | [], _ => []
  | (k, v) :: r, b => ⟨.int .i64 k, enc v, b⟩ :: ments enc r (b + 1)
/-- The map's block. -/
def mapB (enc : α → Value) (M : List (Int × α)) : Obj := .map (ments enc M 0).toArray M.length
theorem ments_app (enc : α → Value) (x : Int) (v : α) : ∀ (M : List (Int × α)) (b : Nat), ments enc (M ++ [(x, v)]) b = ments enc M b ++ [⟨.int .i64 x, enc v, b + M.length⟩]
  | [], b => by simp [ments]
  | (k, u) :: r, b => by
    simp only [List.cons_append, ments, ments_app enc x v r, List.length_cons]
    rw [show b + 1 + r.length = b + (r.length + 1) by omega]
theorem ments_set (enc : α → Value) (x : Int) (v : α) : ∀ (M : List (Int × α)) (b j : Nat), (ments enc M b).modify j (fun e => { e with key := .int .i64 x, val := enc v }) = ments enc (M.set j (x, v)) b
  | [], b, j => by simp [ments]
  | (k, u) :: r, b, 0 => by simp [ments]
  | (k, u) :: r, b, j + 1 => by simp [ments, ments_set enc x v r]
theorem findNow_ments (enc : α → Value) (x : Int) : ∀ (M : List (Int × α)) (b i : Nat), Instr.findNow (.int .i64) (.int .i64 x) (ments enc M b) i = some ((mfind M x i).map fun z => (z.1, enc z.2))
  | [], _, _ => rfl
  | (k, v) :: r, b, i => by
    unfold ments Instr.findNow mfind
    by_cases h : x = k
    · subst h
      simp [Instr.sameNow]
    · have hb : (x == k) = false := by simpa using h
      simp [Instr.sameNow, hb, h, findNow_ments enc x r]
theorem mfind_at (x : Int) : ∀ (M : List (Int × α)) (i j : Nat) (v : α), mfind M x i = some (j, v) → ∃ q, j = i + q ∧ M[q]? = some (x, v)
  | [], _, _, _, h => by cases h
  | (k, u) :: r, i, j, v, h => by
    unfold mfind at h
    by_cases hk : x = k
    · subst hk
      simp only [if_true] at h
      injection h with h
      injection h with h1 h2
      subst h1
      subst h2
      exact ⟨0, rfl, rfl⟩
    · rw [if_neg hk] at h
      obtain ⟨q, h1, h2⟩ := mfind_at x r _ _ _ h
      exact ⟨q + 1, by omega, by simpa using h2⟩
theorem ments_get (enc : α → Value) : ∀ (M : List (Int × α)) (b q : Nat) (x : Int) (v : α), M[q]? = some (x, v) → (ments enc M b)[q]? = some ⟨.int .i64 x, enc v, b + q⟩
  | [], _, _, _, _, h => by simp at h
  | (k, u) :: r, b, 0, x, v, h => by
    simp at h
    simp [ments, h]
  | (k, u) :: r, b, q + 1, x, v, h => by
    have := ments_get enc r (b + 1) q x v (by simpa using h)
    simp [ments, this]
    omega
variable {P : Program} {t kt et : TypeId} {w : World} {g : Nat} {enc : α → Value} {M : List (Int × α)} {x : Int}
theorem find_ments (hk : P.underlying kt = some (.int .i64)) (w : World) (enc : α → Value) (M : List (Int × α)) (x : Int) : (Instr.findKey kt (.int .i64 x) (ments enc M 0)).run P w = .ok ((mfind M x 0).map fun z => (z.1, enc z.2)) w := by
  simp [Instr.findKey, run_underlying hk, Result.andThen, findNow_ments]
theorem check_int (hk : P.underlying kt = some (.int .i64)) (w : World) (em : Bool) (x : Int) : (Instr.checkKey em 10000 kt (.int .i64 x)).run P w = .ok () w := by
  exact MapKept.run_checkKey hk (k := .int .i64 x) (by first | trivial | rfl | simp [MapKept.IsKey]) em 9999
/-- 'm[k]'. -/
theorem run_mlook (ht : P.underlying t = some (.map kt et)) (hk : P.underlying kt = some (.int .i64)) {d : α} (hz : ∀ w, (zeroValue et).run P w = .ok (enc d) w) (hb : w.heap[g]? = some (mapB enc M)) : (Instr.lookup t (.map (some g)) (.int .i64 x) false).run P w = .ok (enc (mlook d M x)) w := by
  have h1 := find_ments hk w enc M x
  unfold mlook
  cases hf : mfind M x 0 with
  | none =>
    rw [hf] at h1
    simp [Instr.lookup, run_underlying ht, MapKept.run_getObj_map hb, check_int hk, h1, hz, Result.andThen]
  | some z =>
    rw [hf] at h1
    simp [Instr.lookup, run_underlying ht, MapKept.run_getObj_map hb, check_int hk, h1, Result.andThen]
theorem stays_int (w : World) (x : Int) : (Instr.keyThatStays (.int .i64 x) (.int .i64 x)).run P w = .ok (.int .i64 x) w := by
  exact MapKept.run_keyThatStays (d := .int .i64) (k := .int .i64 x) (by first | trivial | rfl | simp [MapKept.IsKey])
/-- 'm[k] = v'. -/
theorem run_mput (ht : P.underlying t = some (.map kt et)) (hk : P.underlying kt = some (.int .i64)) (v : α) (hb : w.heap[g]? = some (mapB enc M)) : (Instr.mapUpdate t (.map (some g)) (.int .i64 x) (enc v)).run P w = .ok () (ChangeMaps.setBlock w g (mapB enc (mput M x v))) := by
  have h1 := find_ments hk w enc M x
  unfold mput mapB
  cases hf : mfind M x 0 with
  | none =>
    rw [hf] at h1
    simp [Instr.mapUpdate, run_underlying ht, MapKept.run_getObj_map hb, check_int hk, h1, MapKept.run_setObj_map _ hb, Result.andThen, ChangeMaps.setBlock, ments_app]
  | some z =>
    obtain ⟨j, u⟩ := z
    rw [hf] at h1
    obtain ⟨q, hq, hM⟩ := mfind_at x M 0 j u hf
    obtain rfl : j = q := by omega
    have hg := ments_get enc M 0 j x u hM
    have hm := ments_set enc x v M 0 j
    simp [Instr.mapUpdate, run_underlying ht, MapKept.run_getObj_map hb, check_int hk, h1, hg, stays_int, MapKept.run_setObj_map _ hb, Result.andThen, ChangeMaps.setBlock, ← hm]
theorem blk_farM {o : Obj} (h : w.heap[g]? = some o) {p : Addr} (hp : g ≠ p.block) (u : Value) : (w.setCell p u).heap[g]? = some o := (Below.heap_setCell w p u g hp).trans h
theorem zero_run {z : Value} (hi : (P.info? et).map (fun i => i.zero) = some (some z)) (w : World) : (zeroValue et).run P w = .ok z w := by
  cases h : P.info? et with
  | none => rw [h] at hi; cases hi
  | some i =>
    rw [h] at hi
    have hz : i.zero = some z := by simpa using hi
    simp [zeroValue, run_typeInfo w h, hz, Result.andThen]
theorem mapB_nil (enc : α → Value) : mapB enc [] = .map #[] 0 := rfl
theorem mput_grown (hb : w.heap[g]? = some (mapB enc M)) (o : Obj) : (ChangeMaps.setBlock w g o).heap[g]? = some o ∧ w.grownBy (ChangeMaps.setBlock w g o) (some g) :=
  ⟨ChangeMaps.heap_setBlock_same hb _, ⟨rfl, rfl, rfl, by simp [ChangeMaps.setBlock], fun i _ hi => ChangeMaps.heap_setBlock_other hb _ (fun e => hi (by rw [e]))⟩⟩
end
section
variable {P : Program} {ops : Array Oper} {rest : List Oper} {o : Oper} {a : Act} {Q : Exit → Act → World → Prop} {α : Type} {enc : α → Value} {M : List (Int × α)} {W : World}
theorem gate_map {t : TypeId} {m k v : Operand} (_ho : o.op = .mapUpdate t m k v) (h : wpList P ops Q (o :: rest) a W) : wpList P ops Q (o :: rest) a W := h
/-- A map is made. -/
theorem map_event {W : World} (hgd : o.guard = none) {N : Tmp} (_hd : o.dst = some N) {t : TypeId} (enc : α → Value) (ho : o.op = .makeMap t none)
    (h : ∀ g, g = W.heap.size → ∀ w1, w1.heap[g]? = some (mapB enc []) → Below W.heap.size W w1 → wpList P ops Q rest (a.put o.dst (.map (some g))) w1) : wpList P ops Q (o :: rest) a W :=
  Kd.event_run hgd (w1 := W.alloc (mapB enc [])) (v := .map (some W.heap.size)) (by simp [execOp, ho, run_makeMap, Result.andThen, mapB_nil]) (h _ rfl _ (blk_new W _) (below_alloc (Below.refl _ _) _))
/-- A map is looked into. -/
theorem mlook_event {W : World} (hgd : o.guard = none) {N : Tmp} (_hd : o.dst = some N) {t kt et : TypeId} {m k : Operand} (ho : o.op = .lookup t m k false) {g : Nat} {x : Int} (hm : a.eval m = .map (some g)) (hk : a.eval k = .int .i64 x)
    (ht : P.underlying t = some (.map kt et)) (hkt : P.underlying kt = some (.int .i64)) {d : α} (hz : (P.info? et).map (fun i => i.zero) = some (some (enc d))) (hb : W.heap[g]? = some (mapB enc M))
    (h : wpList P ops Q rest (a.put o.dst (enc (mlook d M x))) W) : wpList P ops Q (o :: rest) a W := by
  refine wpList_plain hgd fun K hK => ?_
  unfold Oper.wp
  simp [execOp, ho, hm, hk, run_mlook ht hkt (zero_run hz) hb, Result.andThen]
  exact hK _ _ h
/-- A map is written. -/
theorem mput_event {W : World} (hgd : o.guard = none) (hN : o.dst = none) {t kt et : TypeId} {m k v : Operand} (ho : o.op = .mapUpdate t m k v) {g : Nat} {x : Int} {y : α} (hm : a.eval m = .map (some g)) (hk : a.eval k = .int .i64 x) (hv : a.eval v = enc y)
    (ht : P.underlying t = some (.map kt et)) (hkt : P.underlying kt = some (.int .i64)) (hb : W.heap[g]? = some (mapB enc M))
    (h : ∀ w1, w1.heap[g]? = some (mapB enc (mput M x y)) → W.grownBy w1 (some g) → wpList P ops Q rest a w1) : wpList P ops Q (o :: rest) a W := by
  have hrun : (execOp a.eval o).run P W = .ok .skip (ChangeMaps.setBlock W g (mapB enc (mput M x y))) := by simp [execOp, ho, hm, hk, hv, run_mput ht hkt y hb, Result.andThen]
  have h2 := mput_grown hb (mapB enc (mput M x y))
  refine wpList_plain hgd fun K hK => ?_
  unfold Oper.wp
  rw [hrun]
  show K (a.put o.dst undef) _
  rw [hN]
  exact hK _ _ (h _ h2.1 h2.2)
end
section
variable {P : Program}
theorem run_equalIn_nil (d : Nat) {t e : TypeId} (ht : P.underlying t = some (.slice e)) (A : Option Addr) (n c m q : Nat) (W : World) : (Op.equalIn (d + 1) t (.slice A n c) (.slice none m q)).run P W = .ok A.isNone W := by
  unfold Op.equalIn
  cases A <;> simp [run_underlying ht, Result.andThen]
variable {ops : Array Oper} {rest : List Oper} {o : Oper} {a : Act} {Q : Exit → Act → World → Prop} {W : World}
/-- A slice is compared with nil. -/
theorem isnil_event (hgd : o.guard = none) {N : Tmp} (_hd : o.dst = some N) {t u e : TypeId} {x y : Operand} (ho : o.op = .binOp .eql t x y u) {A : Option Addr} {n c m q : Nat} (hx : a.eval x = .slice A n c) (hy : a.eval y = .slice none m q) (ht : P.underlying t = some (.slice e)) {b : Bool} (hb : A.isNone = b)
    (h : wpList P ops Q rest (a.put o.dst (.bool b)) W) : wpList P ops Q (o :: rest) a W := by
  subst hb
  refine Kd.event_run hgd (w1 := W) (v := .bool A.isNone) ?_ h
  have h1 : (Op.equal t (.slice A n c) (.slice none m q)).run P W = .ok A.isNone W := run_equalIn_nil _ ht A n c m q W
  simp [execOp, ho, hx, hy, eqGuard, binOp, h1, Result.andThen]
theorem none_no {A : Option Addr} (h : ¬ A = none) : A.isNone = false := by
  cases A with
  | none => exact absurd rfl h
  | some _ => rfl
/-- What is nil is empty. -/
theorem nil_len {α : Type} {d : Kd α} {w : World} {n : Nat} {xs : List α} (h : d.C w none n xs) : n = 0 := by
  rcases Nat.eq_zero_or_pos n with h0 | h0
  · exact h0
  · obtain ⟨ad, e, _⟩ := h.2.2 h0
    cases e
end
end Go.Proofs.YtcdangcjbijfkabV
