/- slices.SortFunc of a row of items by HeapOrder's comparison: the row holds the items put in order (a merge sort's row). No condition beyond those that stand in each line; told by the library's own contract of the sort. -/
import Derived.Test.YtcindcakncngnaaPFnHeapSortsx0
import Derived.Shelf.SlSortCmp.NoneTotal
namespace Go.Proofs.Ytcindcakncngnaa.PFnHeapSorts
open Go.RowKit Go.Proofs.YtcindcakncngnaaW.PrintWords Go.Proofs.YtcindcakncngnaaW.PrintLast Go.Proofs.YtcindcakncngnaaW.PrintMore Go.Proofs.YtcindcakncngnaaV Go.Shelf Go.Lib Go.Sort
set_option linter.unusedVariables false
set_option linter.unusedSimpArgs false
def sortItem_ren : Go.Shelf.Ren := ⟨fun | 6 => 18 | 15 => 30 | 14 => 29 | 28 => 47 | 29 => 48 | 20 => 39 | 21 => 40 | 22 => 41 | 23 => 42 | 24 => 43 | 25 => 44 | 26 => 45 | 27 => 46 | 46 => 50 | 47 => 51 | 48 => 52 | 49 => 53 | 50 => 54 | 57 => 56 | n => n, fun | 22 => 24 | 24 => 32 | 25 => 43 | 3 => 3 | 39 => 53 | 0 => 0 | 53 => 69 | 55 => 71 | 4 => 4 | 46 => 62 | 45 => 61 | 50 => 66 | 5 => 5 | 9 => 9 | 66 => 74 | 70 => 78 | 76 => 81 | 77 => 82 | n => n, fun | n => n⟩
theorem sortItem_ : Go.Proofs.SlLaysF0.n6 Try.prog sortItem_ren where
  mixed := by kernel_rfl
  f6 := ⟨Try.f18.name, by decide, Try.func18.trans (congrArg some (by kernel_rfl))⟩
  f14 := ⟨Try.f29.name, by decide, Try.func29.trans (congrArg some (by kernel_rfl))⟩
  f15 := Try.func30.trans (congrArg some (by kernel_rfl))
  f20 := ⟨Try.f39.name, by decide, Try.func39.trans (congrArg some (by kernel_rfl))⟩
  f21 := ⟨Try.f40.name, by decide, Try.func40.trans (congrArg some (by kernel_rfl))⟩
  f22 := ⟨Try.f41.name, by decide, Try.func41.trans (congrArg some (by kernel_rfl))⟩
  f23 := ⟨Try.f42.name, by decide, Try.func42.trans (congrArg some (by kernel_rfl))⟩
  f24 := ⟨Try.f43.name, by decide, Try.func43.trans (congrArg some (by kernel_rfl))⟩
  f25 := ⟨Try.f44.name, by decide, Try.func44.trans (congrArg some (by kernel_rfl))⟩
  f26 := ⟨Try.f45.name, by decide, Try.func45.trans (congrArg some (by kernel_rfl))⟩
  f27 := ⟨Try.f46.name, by decide, Try.func46.trans (congrArg some (by kernel_rfl))⟩
  f28 := Try.func47.trans (congrArg some (by kernel_rfl))
  f29 := Try.func48.trans (congrArg some (by kernel_rfl))
  f46 := ⟨Try.f50.name, by decide, Try.func50.trans (congrArg some (by kernel_rfl))⟩
  f47 := Try.func51.trans (congrArg some (by kernel_rfl))
  f48 := Try.func52.trans (congrArg some (by kernel_rfl))
  f49 := ⟨Try.f53.name, by decide, Try.func53.trans (congrArg some (by kernel_rfl))⟩
  f50 := ⟨Try.f54.name, by decide, Try.func54.trans (congrArg some (by kernel_rfl))⟩
  f57 := ⟨Try.f56.name, by decide, Try.func56.trans (congrArg some (by kernel_rfl))⟩
  t0 := Try.underlying0
  a0 := Try.isAgg0
  z0 := Try.sizeOf0
  v0 := Try.zeroValue0
  t3 := Try.underlying3
  a3 := Try.isAgg3
  z3 := Try.sizeOf3
  v3 := Try.zeroValue3
  t4 := Try.underlying4
  a4 := Try.isAgg4
  z4 := Try.sizeOf4
  v4 := Try.zeroValue4
  t5 := Try.underlying5
  a5 := Try.isAgg5
  z5 := Try.sizeOf5
  v5 := Try.zeroValue5
  t9 := Try.underlying9
  a9 := Try.isAgg9
  z9 := Try.sizeOf9
  v9 := Try.zeroValue9
  t22 := Try.underlying24
  a22 := Try.isAgg24
  z22 := Try.sizeOf24
  v22 := Try.zeroValue24
  t25 := Try.underlying43
  a25 := Try.isAgg43
  z25 := Try.sizeOf43
  v25 := Try.zeroValue43
  t39 := Try.underlying53
  a39 := Try.isAgg53
  z39 := Try.sizeOf53
  v39 := Try.zeroValue53
  t45 := Try.underlying61
  a45 := Try.isAgg61
  z45 := Try.sizeOf61
  v45 := Try.zeroValue61
  t46 := Try.underlying62
  a46 := Try.isAgg62
  z46 := Try.sizeOf62
  v46 := Try.zeroValue62
  t50 := Try.underlying66
  a50 := Try.isAgg66
  z50 := Try.sizeOf66
  v50 := Try.zeroValue66
  t53 := Try.underlying69
  a53 := Try.isAgg69
  z53 := Try.sizeOf69
  v53 := Try.zeroValue69
  t55 := Try.underlying71
  a55 := Try.isAgg71
  z55 := Try.sizeOf71
  v55 := Try.zeroValue71
  t66 := Try.underlying74
  a66 := Try.isAgg74
  z66 := Try.sizeOf74
  v66 := Try.zeroValue74
  t70 := Try.underlying78
  a70 := Try.isAgg78
  z70 := Try.sizeOf78
  v70 := Try.zeroValue78
  t76 := Try.underlying81
  a76 := Try.isAgg81
  z76 := Try.sizeOf81
  v76 := Try.zeroValue81
  t77 := Try.underlying82
  a77 := Try.isAgg82
  z77 := Try.sizeOf82
  v77 := Try.zeroValue82
/-- One item comes ahead of another. -/
def ah_ (x y : S32) : Bool := decide (x.f0 < y.f0) || (decide (x.f0 = y.f0) && decide (x.f1 < y.f1))
def cf_ (x y : S32) : Int := if ah_ x y = true then -1 else if ah_ y x = true then 1 else 0
/-- The row, put in order. -/
def srt18 (xs : List S32) : List S32 := xs.mergeSort (fun x y => !ah_ y x)
def enc_ (x : S32) : List Value := [.int .i64 x.f0, .int .i64 x.f1]
instance : Inhabited S32 := ⟨z32⟩
theorem ah_total (x y : S32) (h1 : ah_ x y = false) (h2 : ah_ y x = false) : x = y := by
  obtain ⟨a, b⟩ := x
  obtain ⟨c, d⟩ := y
  simp [ah_] at h1 h2
  have e1 : a = c := by omega
  subst e1
  have e2 : b = d := by omega
  rw [e2]
theorem lt_ah_ (x y : S32) : ltOf cf_ x y = ah_ x y := by
  unfold ltOf cf_
  by_cases h : ah_ x y = true
  · rw [if_pos h]; simp [h]
  · rw [if_neg h]
    have h' : ah_ x y = false := by simpa using h
    by_cases h2 : ah_ y x = true
    · rw [if_pos h2]; simp [h']
    · rw [if_neg h2]; simp [h']
theorem ltf_ : ltOf cf_ = ah_ := funext fun x => funext fun y => lt_ah_ x y
theorem swo_ : SWO (ltOf cf_) where
  irrefl x := by rw [lt_ah_]; simp [ah_]
  trans x y z h1 h2 := by
    rw [lt_ah_] at *
    simp [ah_] at *
    omega
  ntrans x y z h1 h2 := by
    rw [lt_ah_] at *
    simp [ah_] at *
    omega
set_option maxHeartbeats 2000000 in
theorem ah20_ (x0 x1 y0 y1 : Int) (W : World) : Calls Try.prog 20 #[.agg #[.int .i64 x0, .int .i64 x1], .agg #[.int .i64 y0, .int .i64 y1]] W fun e w' => e = .returned (.bool (decide (x0 < y0) || (decide (x0 = y0) && decide (x1 < y1)))) ∧ w' = (W.alloc (.cells #[.int .i64 x0, .int .i64 x1] 32)).alloc (.cells #[.int .i64 y0, .int .i64 y1] 32) := by
  by_cases h1 : x0 < y0
  · go_enter Try.func20, Try.ntmps20
    go_wp2
    go_ret
    exact ⟨by simp [h1], rfl⟩
  · by_cases h2 : x0 = y0
    · subst h2
      by_cases h3 : x1 < y1
      · go_enter Try.func20, Try.ntmps20
        go_wp2
        go_ret
        exact ⟨by simp [h3], rfl⟩
      · go_enter Try.func20, Try.ntmps20
        go_wp2
        go_ret
        exact ⟨by simp [h3], rfl⟩
    · go_enter Try.func20, Try.ntmps20
      go_wp2
      go_ret
      exact ⟨by simp [h1, h2], rfl⟩
set_option maxHeartbeats 2000000 in
theorem cmp19_ (x y : S32) (W : World) : Calls Try.prog 19 #[.agg #[.int .i64 x.f0, .int .i64 x.f1], .agg #[.int .i64 y.f0, .int .i64 y.f1]] W fun e w' => e = .returned (.int .i64 (cf_ x y)) ∧ ∃ q os', w' = grow (W.drewN q) os' := by
  obtain ⟨x0, x1⟩ := x
  obtain ⟨y0, y1⟩ := y
  have h1 := fun W' => ah20_ x0 x1 y0 y1 W'
  have h2 := fun W' => ah20_ y0 y1 x0 x1 W'
  have e1 : (decide (x0 < y0) || (decide (x0 = y0) && decide (x1 < y1))) = ah_ ⟨x0, x1⟩ ⟨y0, y1⟩ := rfl
  have e2 : (decide (y0 < x0) || (decide (y0 = x0) && decide (y1 < x1))) = ah_ ⟨y0, y1⟩ ⟨x0, x1⟩ := rfl
  rw [e1] at h1
  rw [e2] at h2
  clear e1 e2
  unfold cf_
  dsimp only
  generalize ah_ ⟨x0, x1⟩ ⟨y0, y1⟩ = b1 at h1 ⊢
  generalize ah_ ⟨y0, y1⟩ ⟨x0, x1⟩ = b2 at h2 ⊢
  cases b1
  · cases b2
    · go_enter Try.func19, Try.ntmps19
      go_wp2_with (go_at_call 20; first | (with_reducible refine (h1 _).mono ?_; rintro e w' ⟨rfl, rfl⟩) | (with_reducible refine (h2 _).mono ?_; rintro e w' ⟨rfl, rfl⟩))
      go_ret
      exact ⟨rfl, 0, _, by simp only [alloc_eq_grow, grow_grow]; rfl⟩
    · go_enter Try.func19, Try.ntmps19
      go_wp2_with (go_at_call 20; first | (with_reducible refine (h1 _).mono ?_; rintro e w' ⟨rfl, rfl⟩) | (with_reducible refine (h2 _).mono ?_; rintro e w' ⟨rfl, rfl⟩))
      go_ret
      exact ⟨rfl, 0, _, by simp only [alloc_eq_grow, grow_grow]; rfl⟩
  · go_enter Try.func19, Try.ntmps19
    go_wp2_with (go_at_call 20; first | (with_reducible refine (h1 _).mono ?_; rintro e w' ⟨rfl, rfl⟩) | (with_reducible refine (h2 _).mono ?_; rintro e w' ⟨rfl, rfl⟩))
    go_ret
    exact ⟨rfl, 0, _, by simp only [alloc_eq_grow, grow_grow]; rfl⟩
theorem flat_take {xs : List S32} : ((flatK enc_ 2 xs.toArray).toList) = xs.flatMap enc_ := by
  have hz : ∀ ys : List S32, (ys.flatMap enc_).length = ys.length * 2 := by
    intro ys
    induction ys with
    | nil => rfl
    | cons y ys ih => rw [List.flatMap_cons, List.length_append, ih, List.length_cons]; simp [enc_]; omega
  apply List.ext_getElem
  · rw [Array.length_toList, size_flatK, hz]; simp
  · intro t h1 h2
    have ht : t < xs.length * 2 := by rw [← hz]; exact h2
    have hq : ∀ (ys : List S32) (t : Nat) (h : t < (ys.flatMap enc_).length), (ys.flatMap enc_)[t] = (enc_ ys[t / 2]!)[t % 2]! := by
      intro ys
      induction ys with
      | nil => intro t h; simp at h
      | cons y ys ih =>
        intro t h
        match t, h with
        | 0, _ => rfl
        | 1, _ => rfl
        | t + 2, h =>
          have e : ((y :: ys).flatMap enc_) = Value.int .i64 y.f0 :: Value.int .i64 y.f1 :: ys.flatMap enc_ := rfl
          simp only [e, List.getElem_cons_succ]
          rw [ih]
          have e1 : (t + 2) / 2 = t / 2 + 1 := by omega
          have e2 : (t + 2) % 2 = t % 2 := by omega
          rw [e1, e2]
          simp
    rw [hq]
    have hg := get_flatK enc_ 2 xs.toArray t (by simpa using ht)
    rw [getElem!_pos _ t (by simpa using ht)] at hg
    rw [Array.getElem_toList, hg]
    simp
set_option maxHeartbeats 2000000 in
theorem srt18_ {w0 w : World} {base : Nat} {ok : Nat → Prop} {v : Value} {xs : List S32} (HO : Kd.R k32 32 w base ok v xs) (HB0 : Below base w0 w) (hsz : base ≤ w.heap.size) (hl : (xs.length : Int) < 8796093022208) :
    Calls Try.prog 18 #[v, .func (.func 19) #[] #[]] w fun e w' => e = .returned (.tuple #[]) ∧ Kd.R k32 32 w' base ok v (srt18 xs) ∧ w.grownBy w' v.ownBlock ∧ Below base w0 w' := by
  by_cases h0 : xs.length = 0
  · have hx : xs = [] := List.length_eq_zero_iff.1 h0
    subst hx
    have HO2 := HO
    obtain ⟨hok, inner, hown, hreps⟩ := HO2
    have hv : ∃ p cap, v = .slice p 0 cap := by
      rcases hown.2 with ⟨e, _⟩ | ⟨g, cap, cur, e, _⟩
      · exact ⟨_, _, e⟩
      · exact ⟨_, _, e⟩
    obtain ⟨p, cap, rfl⟩ := hv
    refine (AnyF.slices_SortFunc_none sortItem_ p cap _ w).mono ?_
    rintro e w' ⟨rfl, rfl⟩
    have e0 : srt18 ([] : List S32) = [] := by simp [srt18]
    rw [e0]
    exact ⟨rfl, HO, World.grownBy.refl _ _, HB0⟩
  · obtain ⟨g, cap, rfl, hbg, hgl, _⟩ := Kd.R_form HO (by omega)
    have hH : HoldsK enc_ 2 w g 0 xs.toArray := by
      intro t ht
      have ht2 : t < xs.length * 2 := by simpa using ht
      obtain ⟨c, hcl, hM, hcc, hfr⟩ := Kd.R_elem HO z32 ((t / 2 : Nat) : Int) (by omega) (by omega)
      obtain rfl := k32_openM hM
      have hsz2 : k32.sz = 2 := rfl
      have hm : t / 2 * 2 + t % 2 = t := by omega
      have e : ((t / 2 : Nat) : Int).toNat = t / 2 := by omega
      rw [e] at hcc hfr
      have hc1 := hcc (t % 2) ((enc_ (xs.getD (t / 2) z32))[t % 2]!) (by
        rcases Nat.mod_two_eq_zero_or_one t with h | h <;> rw [h] <;> rfl)
      have hf1 := hfr (t % 2)
      rw [hsz2, hm] at hc1 hf1
      rw [get_flatK _ _ _ t (by simpa using ht2), Nat.zero_add]
      refine ⟨?_, hf1⟩
      have e2 : (xs.toArray[t / 2]! : S32) = xs.getD (t / 2) z32 := by
        have : t / 2 < xs.length := by omega
        simp [this]
      rw [e2]
      exact hc1
    have hcon := AnyQ.slices_SortFunc_total (P := Try.prog) sortItem_ 2 Try.isAgg32 Try.sizeOf32 enc_ (fun _ => rfl) (fun x v hv => by simp [enc_] at hv; rcases hv with rfl | rfl <;> rfl) cf_ swo_ 19 #[] g 0 cap xs.toArray w (enters_of Try.func19 (by kernel_rfl) rfl) (fun _ _ _ _ x y => cmp19_ x y _) hH hgl (by simp; omega) (by rw [ltf_]; exact ah_total)
    have hd : (xs.toArray.toList.mergeSort fun x y => !(ltOf cf_) y x) = srt18 xs := by rw [ltf_]; rfl
    have hlen : (srt18 xs).length = xs.length := List.length_mergeSort _
    rw [hd] at hcon
    have hsx : xs.toArray.size = xs.length := by simp
    rw [hsx] at hcon
    refine hcon.mono ?_
    rintro e w' ⟨rfl, n, os, rfl⟩
    have HO2 := HO
    obtain ⟨hok, inner, ⟨hi, hown⟩, hreps⟩ := HO2
    rcases hown with ⟨e, _⟩ | ⟨g', cap', cur, e, hb', hgg, hnc, hcm, hcs, htk⟩
    · injection e with e1; cases e1
    · injection e with e1 e2 e3
      injection e1 with e1
      injection e1 with e1
      subst e1
      subst e3
      have hsz2 : k32.sz = 2 := rfl
      have hgrow : w.grownBy (sortWorldK enc_ 2 w g 0 n (srt18 xs).toArray os) (some g) := by
        refine ⟨rfl, rfl, rfl, ?_, ?_⟩
        · unfold sortWorldK putRowK putRow mapBlock
          simp [grow, Sort.ahead]
        · intro k hk hne
          have hgk : g ≠ k := fun e => hne (by rw [e])
          unfold sortWorldK putRowK
          rw [heap_grow_old _ _ (by simpa [putRow, mapBlock, Sort.ahead] using hk)]
          simp [putRow, mapBlock, Sort.ahead, Array.getElem?_modify, hgk]
      have hblk : (sortWorldK enc_ 2 w g 0 n (srt18 xs).toArray os).heap[g]? = some (.cells (putCells id 0 (flatK enc_ 2 (srt18 xs).toArray) cur) 32 (0, 0)) := by
        unfold sortWorldK putRowK
        rw [heap_grow_old _ _ (by simpa [putRow, mapBlock, Sort.ahead] using hgl)]
        simp [putRow, mapBlock, Sort.ahead, Array.getElem?_modify, hgg, onCells]
      have hfl : (flatK enc_ 2 (srt18 xs).toArray).size = xs.length * 2 := by rw [size_flatK]; simp [hlen]
      have htk2 : (putCells id 0 (flatK enc_ 2 (srt18 xs).toArray) cur).toList.take (xs.length * 2) = (srt18 xs).flatMap enc_ := by
        rw [← flat_take]
        apply List.ext_getElem?
        intro j
        by_cases hj : j < xs.length * 2
        · have hjc : j < cur.size := by rw [hcs, hsz2]; exact Nat.lt_of_lt_of_le hj (Nat.mul_le_mul_right 2 hnc)
          rw [List.getElem?_take_of_lt hj, Array.getElem?_toList, Array.getElem?_toList]
          have hjf : j < (flatK enc_ 2 (srt18 xs).toArray).size := by rw [hfl]; exact hj
          simp [putCells, hjc, hjf]
          rw [Array.getElem?_eq_getElem hjf]
          simp
          rw [if_pos (by rw [hlen]; exact hj), getElem!_pos _ j hjf]
        · rw [List.getElem?_take_eq_none (by omega), List.getElem?_eq_none (by rw [Array.length_toList, hfl]; omega)]
      have hzf : ∀ ys : List S32, (ys.flatMap enc_).length = ys.length * 2 := by
        intro ys
        induction ys with
        | nil => rfl
        | cons y ys ih => rw [List.flatMap_cons, List.length_append, ih, List.length_cons]; simp [enc_]; omega
      refine ⟨rfl, ⟨hok, (srt18 xs).flatMap enc_, ⟨by rw [hzf, hlen]; rfl, .inr ⟨g, cap, _, by rw [hlen], hb', hblk, by rw [hlen]; exact hnc, hcm, ?_, ?_⟩⟩, ?_⟩, hgrow, ?_⟩
      · rw [← hcs]; simp [putCells]
      · rw [hlen]; exact htk2
      · refine ⟨by rw [hzf]; rfl, ?_⟩
        intro j p hp
        have hgen : ∀ (ys : List S32) (j : Nat) (p : S32), ys[j]? = some p → ((ys.flatMap enc_).drop (j * 2)).take 2 = enc_ p := by
          intro ys
          induction ys with
          | nil => intro j p h; simp at h
          | cons y ys ih =>
            intro j p h
            match j, h with
            | 0, h =>
              simp at h
              subst h
              rfl
            | j + 1, h =>
              have e : (j + 1) * 2 = j * 2 + 2 := by omega
              have e2 : ((y :: ys).flatMap enc_) = Value.int .i64 y.f0 :: Value.int .i64 y.f1 :: ys.flatMap enc_ := rfl
              rw [e, e2]
              simp only [List.drop_succ_cons]
              exact ih j p (by simpa using h)
        have hgp := hgen _ _ _ hp
        show k32.M _ base _ p (((srt18 xs).flatMap enc_).drop (j * 2) |>.take 2)
        rw [hgp]
        exact k32_mkM _ _ _ p
      · exact HB0.grown hgrow hsz (fun k hk => by injection hk with hk; omega)
end Go.Proofs.Ytcindcakncngnaa.PFnHeapSorts
