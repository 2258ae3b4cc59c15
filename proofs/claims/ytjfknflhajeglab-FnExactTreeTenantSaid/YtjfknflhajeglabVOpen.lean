/- Words of this session's: what an argument reads as, opened by its kind: numbers, structs, slices of these, to any depth. No condition beyond those that stand in each line. -/
import Derived.Test.YtjfknflhajeglabWWords
import Derived.Test.YtjfknflhajeglabWLast
import Derived.Test.YtjfknflhajeglabWMore
import Derived.Deep.Slices
import Derived.DataReads
namespace Go.Proofs.YtjfknflhajeglabV
open Go.RowKit Go.Proofs.YtjfknflhajeglabW.PrintWords Go.Proofs.YtjfknflhajeglabW.PrintLast Go.Proofs.YtjfknflhajeglabW.PrintMore Go.Deep
/-- What a reading of type T gives: a value of kind d, and what is known of it. -/
structure Opens {α : Type} (P : Program) (d : Kd α) (ok : α → Prop) (T : TypeId) : Prop where
  one : P.cellsOf T = d.sz
  two : ∀ (H : Type) (enc : TypeId × Value → H) (w : World) (base : Nat) (spare : Nat → Bool) (held : Bool) (fuel : Nat) (cs : List Value) (x : DataW H × List MemPlace), DataW.trod enc P w base spare held fuel T cs = some x → ∃ y, d.K w y cs ∧ ok y
/-- The same of a struct's fields from a place on. -/
structure OpensF {α : Type} (P : Program) (d : Kd α) (ok : α → Prop) (fs : List Field) (off : Nat) : Prop where
  all : ∀ (H : Type) (enc : TypeId × Value → H) (w : World) (base : Nat) (spare : Nat → Bool) (held : Bool) (n : Nat) (cs : List Value), cs.length = off + d.sz →
    (∀ f ∈ fs, ∃ x, DataW.trod enc P w base spare held n f.type ((cs.drop f.offset).take (P.cellsOf f.type)) = some x) → ∃ y, d.K w y (cs.drop off) ∧ ok y
section
variable {P : Program} {T : TypeId}
theorem opens_int {k : IntKind} (ht : P.underlying T = some (.int k)) (hc : P.cellsOf T = 1) : Opens P (Kd.int k) (fun n => (Lit.int k n).wf = true) T := by
  refine ⟨hc, fun H enc w base spare held fuel cs x h => ?_⟩
  obtain ⟨n, rfl, _, hw⟩ := DataW.trod_int ht h
  exact ⟨n, rfl, hw⟩
theorem opens_bool (ht : P.underlying T = some .bool) (hc : P.cellsOf T = 1) : Opens P Kd.bool (fun _ => True) T := by
  refine ⟨hc, fun H enc w base spare held fuel cs x h => ?_⟩
  obtain ⟨n, rfl, _⟩ := DataW.trod_bool ht h
  exact ⟨n, rfl, trivial⟩
theorem opens_slice {α : Type} {d : Kd α} {ok : α → Prop} {E : TypeId} (ht : P.underlying T = some (.slice E)) (hc : P.cellsOf T = 1) (he : Opens P d ok E) : Opens P (Kd.slice E d) (fun l => l.length ≤ maxLen ∧ ∀ x ∈ l, ok x) T := by
  refine ⟨hc, fun H enc w base spare held fuel cs x h => ?_⟩
  rcases open_slice ht h with ⟨rfl, _⟩ | ⟨a, len, cap, m, n, D, Pl, rfl, hb, hl, hm, hmm, _, hx⟩
  · exact ⟨[], ⟨none, 0, rfl, Nat.le_refl _, Kd.C_nil _ _⟩, Nat.zero_le _, fun x hx => by cases hx⟩
  · have hle : len ≤ m := by rw [hmm]; split <;> omega
    have hy : ∀ i, i < len → ∃ y : α, (∃ cs', cs'.length = d.sz ∧ (∀ j u, cs'[j]? = some u → w.cell? (a.add (i * d.sz + j)) = some u) ∧ d.K w y cs') ∧ ok y := by
      intro i hi
      obtain ⟨cs', h1, h2⟩ := hx i (Nat.lt_of_lt_of_le hi hle)
      obtain ⟨y, hK, hok⟩ := he.two _ _ _ _ _ _ _ _ _ h2
      obtain ⟨_, hlen, hcell⟩ := World.cells?_some h1
      refine ⟨y, ⟨cs', by rw [hlen, he.one], fun j u hu => ?_, hK⟩, hok⟩
      have hj : j < P.cellsOf E := by
        have := (List.getElem?_eq_some_iff.1 hu).1
        omega
      have := hcell j hj
      rw [Go.Deep.add_add, he.one] at this
      rw [this, hu]
    classical
    let f : Fin len → α := fun i => Classical.choose (hy i.1 i.2)
    have hf : ∀ i : Fin len, (∃ cs', cs'.length = d.sz ∧ (∀ j u, cs'[j]? = some u → w.cell? (a.add (i.1 * d.sz + j)) = some u) ∧ d.K w (f i) cs') ∧ ok (f i) := fun i => Classical.choose_spec (hy i.1 i.2)
    refine ⟨List.ofFn f, ⟨some a, cap, by simp, by simpa using hl, ?_⟩, by simp; omega, ?_⟩
    · refine ⟨rfl, ?_, fun _ => ⟨a, rfl, fun j p hj => ?_⟩⟩
      · simp
        have : maxLen = 9223372036854775807 := rfl
        omega
      · rw [List.getElem?_ofFn] at hj
        split at hj
        · rename_i hlt
          obtain rfl := Option.some.inj hj
          obtain ⟨⟨cs', h1, h2, h3⟩, _⟩ := hf ⟨j, hlt⟩
          exact ⟨cs', h1, h3, h2⟩
        · cases hj
    · intro x hx
      rw [List.mem_ofFn] at hx
      obtain ⟨i, rfl⟩ := hx
      exact (hf i).2
theorem opensF_one {α : Type} {d : Kd α} {ok : α → Prop} {f : Field} {off : Nat} (h : Opens P d ok f.type) (ho : f.offset = off) : OpensF P d ok [f] off := by
  refine ⟨fun H enc w base spare held n cs hlen hf => ?_⟩
  obtain ⟨x, hx⟩ := hf f (by simp)
  rw [ho, List.take_of_length_le (by rw [List.length_drop, h.one]; omega)] at hx
  exact h.two _ _ _ _ _ _ _ _ _ hx
theorem opensF_cons {α β : Type} {d1 : Kd α} {d2 : Kd β} {ok1 : α → Prop} {ok2 : β → Prop} {f : Field} {fs : List Field} {off : Nat} (h1 : Opens P d1 ok1 f.type) (ho : f.offset = off) (h2 : OpensF P d2 ok2 fs (off + d1.sz)) : OpensF P (Kd.pair d1 d2) (fun x => ok1 x.1 ∧ ok2 x.2) (f :: fs) off := by
  refine ⟨fun H enc w base spare held n cs hlen hf => ?_⟩
  have hlen : cs.length = off + (d1.sz + d2.sz) := hlen
  obtain ⟨x, hx⟩ := hf f (by simp)
  rw [ho, h1.one] at hx
  obtain ⟨y1, hK1, hok1⟩ := h1.two _ _ _ _ _ _ _ _ _ hx
  obtain ⟨y2, hK2, hok2⟩ := h2.all _ _ _ _ _ _ n cs (by omega) (fun g hg => hf g (by simp [hg]))
  refine ⟨(y1, y2), ⟨(cs.drop off).take d1.sz, cs.drop (off + d1.sz), ?_, hK1, hK2⟩, hok1, hok2⟩
  rw [← List.drop_drop, List.take_append_drop]
theorem opens_struct {α β : Type} {d : Kd α} {ok : α → Prop} {fs : Array Field} (ht : P.underlying T = some (.struct fs)) (hc : P.cellsOf T = d.sz) (h : OpensF P d ok fs.toList 0) (f : β → α) (g : α → β) (hg : ∀ y, f (g y) = y) : Opens P (Kd.iso d f) (fun x => ok (f x)) T := by
  refine ⟨hc, fun H enc w base spare held fuel cs x hr => ?_⟩
  obtain ⟨xs, n, _, _, hlen, hxs, hx⟩ := DataW.trod_struct ht hr
  obtain ⟨y, hK, hok⟩ := h.all _ _ _ _ _ _ n _ (by rw [hlen, hc]; omega) (fun f hf => by
    obtain ⟨i, hi⟩ := List.getElem?_of_mem hf
    have h1 := hx i f (by rw [← hi]; simp)
    have h2 : i < xs.length := by rw [hxs]; simpa using (List.getElem?_eq_some_iff.1 hi).1
    exact ⟨_, h1.trans (List.getElem?_eq_getElem h2)⟩)
  rw [List.drop_zero] at hK
  exact ⟨g y, by show d.K _ (f (g y)) _; rw [hg]; exact hK, by show ok (f (g y)); rw [hg]; exact hok⟩
/-- A reading, by its fuel. -/
theorem Opens.of {α : Type} {d : Kd α} {ok : α → Prop} (h : Opens P d ok T) {H : Type} {enc : TypeId × Value → H} {w : World} {base : Nat} {spare : Nat → Bool} {held : Bool} {v : Value} {x : DataW H} {ps : List MemPlace} (hr : DataW.Trod enc P w base spare held T v x ps) : ∃ y, d.K w y v.cells.toList ∧ ok y := by
  obtain ⟨fuel, hr⟩ := hr
  exact h.two _ _ _ _ _ _ _ _ _ hr
end
end Go.Proofs.YtjfknflhajeglabV
