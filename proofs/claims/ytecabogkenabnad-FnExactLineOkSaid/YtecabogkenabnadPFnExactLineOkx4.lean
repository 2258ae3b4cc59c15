-- by a program of this session's, over the kit's words
import Derived.Test.YtecabogkenabnadPFnExactLineOkx0
import Derived.Test.YtecabogkenabnadPFnExactLineOkx3
namespace Go.Proofs.Ytecabogkenabnad.PFnExactLineOk
open Go.RowKit Go.Proofs.YtecabogkenabnadW.PrintWords Go.Proofs.YtecabogkenabnadW.PrintLast Go.Proofs.YtecabogkenabnadW.PrintMore Go.Proofs.YtecabogkenabnadV
attribute [local go_sem] max2_int min2_int max_two min_two max_three min_three max_four min_four   -- for this text's walks alone
set_option linter.unusedVariables false
set_option linter.unusedSimpArgs false

/-! ### impl_LineOk: function 7 -/
mutual
def impl_LineOk.j0 : Nat → Bool → Int → List (S38) → List (S38) → List (S38) → Option (Bool)
  | 0, _, _, _, _, _ => none
  | k + 1, x18, x187000, x187001, x187002, x187003 => if x18 = true then (some false) else ((impl_Line_jobs.f k x187000 x187001 x187002 x187003).bind fun t192 => (impl_LineOk.l0 k t192 (t192.length : Int) 0 x187000 x187001 x187002 x187003 ([] : List (Int × Bool))))
def impl_LineOk.l0 : Nat → List (S38) → Int → Int → Int → List (S38) → List (S38) → List (S38) → List (Int × Bool) → Option (Bool)
  | 0, _, _, _, _, _, _, _, _ => none
  | k + 1, x21, x22, x23, x187000, x187001, x187002, x187003, x192000 => if x23 < x22 then (if 0 ≤ x23 then (if x23 < (x21.length : Int) then ((impl_CostOk.f ((rd_T38 x21 x23).f1.f0) ((rd_T38 x21 x23).f1.f1) ((rd_T38 x21 x23).f1.f2)).bind fun t197 => (if x23 ≥ (wrap64 ((x187001.length : Int) + (x187002.length : Int))) then (if ((rd_T38 x21 x23).f1.f0) = 0 then (if ((rd_T38 x21 x23).f1.f1) = 0 then ((impl_isNeed.f ((rd_T38 x21 x23).f1.f2)).bind fun t198 => (if t198 = true then ((impl_within.f ((rd_T38 x21 x23).f0) 0 1000000000000).bind fun t199 => (if t199 = true then (if mlook false x192000 ((rd_T38 x21 x23).f0) = true then (some false) else (impl_LineOk.l0 k x21 x22 (wrap64 (x23 + 1)) x187000 x187001 x187002 x187003 (mput x192000 ((rd_T38 x21 x23).f0) true))) else (some false))) else (some false))) else (some false)) else (some false)) else (if x23 ≥ (x187001.length : Int) then (if ((rd_T38 x21 x23).f1.f0) = 0 then ((impl_isNeed.f ((rd_T38 x21 x23).f1.f1)).bind fun t200 => (if t200 = true then ((impl_isNeed.f ((rd_T38 x21 x23).f1.f2)).bind fun t201 => (if t201 = true then ((impl_within.f ((rd_T38 x21 x23).f0) 0 1000000000000).bind fun t202 => (if t202 = true then (if mlook false x192000 ((rd_T38 x21 x23).f0) = true then (some false) else (impl_LineOk.l0 k x21 x22 (wrap64 (x23 + 1)) x187000 x187001 x187002 x187003 (mput x192000 ((rd_T38 x21 x23).f0) true))) else (some false))) else (some false))) else (some false))) else (some false)) else (if t197 = true then ((impl_within.f ((rd_T38 x21 x23).f0) 0 1000000000000).bind fun t203 => (if t203 = true then (if mlook false x192000 ((rd_T38 x21 x23).f0) = true then (some false) else (impl_LineOk.l0 k x21 x22 (wrap64 (x23 + 1)) x187000 x187001 x187002 x187003 (mput x192000 ((rd_T38 x21 x23).f0) true))) else (some false))) else (some false))))) else (none)) else (none)) else (some true)
end
def impl_LineOk.f (k : Nat) (a0_0 : Int) (l0_1 : List (S38)) (l0_2 : List (S38)) (l0_3 : List (S38)) : Option (Bool) := (impl_within.f a0_0 1 16).bind fun t187 => (if t187 = true then ((impl_Line_jobs.f k a0_0 l0_1 l0_2 l0_3).bind fun t188 => (impl_LineOk.j0 k (decide ((t188.length : Int) > a0_0)) a0_0 l0_1 l0_2 l0_3)) else (impl_LineOk.j0 k true a0_0 l0_1 l0_2 l0_3))
def impl_LineOk.T1 : Bool × List (List Nat × List Nat) := (true, [([], []), ([0], [0]), ([1], [1]), ([2], [2]), ([3, 2], [3]), ([4], [4]), ([5, 4, 4], [4, 5]), ([6, 4], [4, 6]), ([4], [4]), ([8, 4], [4, 8]), ([7, 9, 4], [4, 7, 9]), ([4, 10], [4, 10])])
def impl_LineOk.B1 : List Nat := [0, 1, 3, 7, 15, 31, 63, 127, 31, 287, 1023, 2047]
theorem impl_LineOk.tab1 : rtab .any (opsOf Try.f7 1) = impl_LineOk.T1 := by kernel_rfl
theorem impl_LineOk.bits1 : waitsOk impl_LineOk.T1.2 impl_LineOk.B1 = true := by kernel_rfl
set_option maxHeartbeats 8000000 in
set_option maxRecDepth 100000 in
theorem impl_LineOk.calls (k : Nat) (a0_0 : Int) (A0_1 : Option Addr) (c0_1 : Nat) (l0_1 : List (S38)) (A0_2 : Option Addr) (c0_2 : Nat) (l0_2 : List (S38)) (A0_3 : Option Addr) (c0_3 : Nat) (l0_3 : List (S38)) (r : Bool) (w : World) (hr0_1 : Kd.C k38 w A0_1 l0_1.length l0_1) (hc0_1 : l0_1.length ≤ c0_1) (hr0_2 : Kd.C k38 w A0_2 l0_2.length l0_2) (hc0_2 : l0_2.length ≤ c0_2) (hr0_3 : Kd.C k38 w A0_3 l0_3.length l0_3) (hc0_3 : l0_3.length ≤ c0_3) (h : impl_LineOk.f k a0_0 l0_1 l0_2 l0_3 = some r) :
    Calls Try.prog 7 #[.agg #[.int .i64 a0_0, .slice A0_1 l0_1.length c0_1, .slice A0_2 l0_2.length c0_2, .slice A0_3 l0_3.length c0_3]] w fun e w' => e = .returned (.bool r) ∧ Below w.heap.size w w' := by
  have hu29 := Try.underlying29
  have hu38 := Try.underlying38
  have hu36 := Try.underlying36
  have HR0_1 := Aside0.mk hr0_1
  have HC0_1 := Aside0.mk hc0_1
  clear hr0_1 hc0_1
  have HR0_2 := Aside0.mk hr0_2
  have HC0_2 := Aside0.mk hc0_2
  clear hr0_2 hc0_2
  have HR0_3 := Aside0.mk hr0_3
  have HC0_3 := Aside0.mk hc0_3
  clear hr0_3 hc0_3
  have HB := Aside0.mk (Below.refl w.heap.size w)
  have H : ((impl_within.f a0_0 1 16).bind fun t187 => (if t187 = true then ((impl_Line_jobs.f k a0_0 l0_1 l0_2 l0_3).bind fun t188 => (impl_LineOk.j0 k (decide ((t188.length : Int) > a0_0)) a0_0 l0_1 l0_2 l0_3)) else (impl_LineOk.j0 k true a0_0 l0_1 l0_2 l0_3))) = some r := h
  clear h
  have HC2 := Aside0.mk H
  clear H
  go_enter Try.func7, Try.ntmps7
  go_upto_region 1 with (first | ((with_reducible refine gate_dst (N := 1) rfl ?_); (try (refine gate_guard (by rfl) ?_; dsimp only)); refine box_event ?hg (N := 1) ?hd (cs := #[.int .i64 a0_0, .slice A0_1 l0_1.length c0_1, .slice A0_2 l0_2.length c0_2, .slice A0_3 l0_3.length c0_3]) (t := 29) ?hr ?_; (case hd => rfl); (case hg => rfl); (case hr => first | (go_simp; done) | (go_simp; rfl)); intro gb186 hg w3 hbox hb; have n0_ := Aside0.mk (below_step (by repeat (first | (with_reducible first | exact HB.out | apply below_alloc | apply pw_below_drewN | apply below_drew1) | exact HB.out)) hb); have n1_ := Aside0.mk (hbox); have n2_ := Aside0.mk ((by rw [hg]; exact (below_size (by repeat (first | (with_reducible first | exact HB.out | apply below_alloc | apply pw_below_drewN | apply below_drew1) | exact HB.out))) : w.heap.size ≤ gb186)); have n3_ := Aside0.mk ((by rw [hg]; exact (below_size (by repeat (first | (with_reducible first | exact HB.out | apply below_alloc | apply pw_below_drewN | apply below_drew1) | exact HB.out))) : w.heap.size ≤ gb186)); clear HB; have HB := n0_; have BK186 := n1_; have GW186 := n2_; have GE186 := n3_; clear n0_ n1_ n2_ n3_; clear hb hbox hg))
  (try simp only [Act.put, List.setIfInBounds_toArray, List.set_cons_zero, List.set_cons_succ])
  go_cut [18] (fun v18 wc => ∃ (kq : Nat) (x18_1 : Bool), v18 = .bool x18_1 ∧ Aside0 (impl_LineOk.j0 kq x18_1 a0_0 l0_1 l0_2 l0_3 = some r) ∧ Aside0 (kq ≤ k) ∧ Aside0 (wc.heap[gb186]? = some (.cells #[.int .i64 a0_0, (.slice A0_1 l0_1.length c0_1), (.slice A0_2 l0_2.length c0_2), (.slice A0_3 l0_3.length c0_3)] 29 (0, 0))) ∧ Aside0 (Below w.heap.size w wc))
  case first =>
    have H := HC2.out
    clear HC2
    obtain ⟨t187, A40, H⟩ := Option.bind_eq_some_iff.mp H
    (try dsimp only at H)
    have A4 := Aside0.mk A40
    clear A40
    by_cases c5 : t187 = true
    · subst c5
      rw [if_pos rfl] at H
      obtain ⟨t188, A60, H⟩ := Option.bind_eq_some_iff.mp H
      (try dsimp only at H)
      have A6 := Aside0.mk A60
      clear A60
      have H' := Aside0.mk H
      clear H
      try go_wp2
      have n0_ := Aside0.mk (blk_drew BK186.out)
      have n1_ := Aside0.mk (below_drew1 HB.out)
      clear BK186
      clear HB
      have BK186 := n0_
      have HB := n1_
      clear n0_ n1_
      refine start_ (n := 12) (S := fun w' => w'.cell? ⟨gb186, 0, none⟩ = some (.int .i64 a0_0) ∧ w'.cell? ⟨gb186, 1, none⟩ = some (.slice A0_1 l0_1.length c0_1) ∧ w'.cell? ⟨gb186, 2, none⟩ = some (.slice A0_2 l0_2.length c0_2) ∧ w'.cell? ⟨gb186, 3, none⟩ = some (.slice A0_3 l0_3.length c0_3)) (ds := []) (bz 12 0) (by kernel_rfl) rfl (by kernel_rfl) ⟨(blk_cell BK186.out 0).trans rfl, (blk_cell BK186.out 1).trans rfl, (blk_cell BK186.out 2).trans rfl, (blk_cell BK186.out 3).trans rfl⟩ (fun hHeld => ?_); refine with_tabW impl_LineOk.tab1 impl_LineOk.bits1 (fun HT_ HW_ => ?_)
      generalize w3.drew = w7 at BK186 HB hHeld ⊢
      refine px_ (i := 0) (N := some 7) (bz 12 1) (any_of HT_.out (by kernel_rfl)) ?_
      refine tx_ (i := 1) (N := some 8) (bz 12 3) rfl rfl (take_ofW HT_.out HW_.out (by kernel_rfl)) hHeld (by rintro w' ⟨s0, s1, s2, s3⟩; go_simp; with_reducible rfl) ?_
      refine one_ (i := 2) (N := some 9) (bz 12 7) rfl rfl (one_of HT_.out (by kernel_rfl)) (by decide) (fun K hK => ?_)
      refine goes_ Try.func12 (by kernel_rfl) rfl #[.int .i64 a0_0, .int .i64 1, .int .i64 16] (by rfl) rfl rfl (by (try simp only [List.map_toArray, List.map_cons, List.map_nil]); first | done | rfl | (simp only [List.length_drop, List.length_take]; rfl)) ?_
      with_reducible refine (impl_within.calls a0_0 1 16 true _ A4.out).mono ?_
      rintro e w' ⟨rfl, ⟨nd, rfl⟩⟩
      refine ⟨_, rfl, ?_⟩
      refine hK.out _ _ ⟨(blk_cell BK186.out 0).trans rfl, (blk_cell BK186.out 1).trans rfl, (blk_cell BK186.out 2).trans rfl, (blk_cell BK186.out 3).trans rfl⟩ (fun hHeld => ?_)
      clear hK K
      refine nx_ (N := some 9) ?_
      refine px_ (i := 3) (N := some 10) (bz 12 15) (any_of HT_.out (by kernel_rfl)) ?_
      refine px_ (i := 4) (N := some 11) (bz 12 31) (any_of HT_.out (by kernel_rfl)) ?_
      refine px_ (i := 8) (N := some 15) (bz 12 287) (any_of HT_.out (by kernel_rfl)) ?_
      refine tx_ (i := 5) (N := some 12) (bz 12 319) rfl rfl (take_ofW HT_.out HW_.out (by kernel_rfl)) hHeld (by rintro w' ⟨s0, s1, s2, s3⟩; go_simp; with_reducible rfl) ?_
      refine tx_ (i := 9) (N := some 16) (bz 12 831) rfl rfl (take_ofW HT_.out HW_.out (by kernel_rfl)) hHeld (by rintro w' ⟨s0, s1, s2, s3⟩; go_simp; with_reducible rfl) ?_
      refine one_ (i := 6) (N := some 13) (bz 12 895) rfl rfl (one_of HT_.out (by kernel_rfl)) (by decide) (fun K hK => ?_)
      refine goes_ Try.func13 (by kernel_rfl) rfl #[.agg #[.int .i64 a0_0, .slice A0_1 l0_1.length c0_1, .slice A0_2 l0_2.length c0_2, .slice A0_3 l0_3.length c0_3]] (by rfl) rfl rfl (by (try simp only [List.map_toArray, List.map_cons, List.map_nil]); first | done | rfl | (simp only [List.length_drop, List.length_take]; rfl)) ?_
      with_reducible refine (impl_Line_jobs.calls k a0_0 (fun k_ => k_ < w.heap.size) _ _ l0_1 (fun k_ => k_ < w.heap.size) _ _ l0_2 (fun k_ => k_ < w.heap.size) _ _ l0_3 t188 _ ?side1 ?side2 ?side3 A6.out).mono ?_
      (case side1 => exact Kd.V_mk HC0_1.out (Kd.F_below (Kd.C_F k38_heap HR0_1.out) (by repeat (first | (with_reducible first | exact HB.out | apply below_alloc | apply pw_below_drewN | apply below_drew1 | refine below_set ?_ GE186.out) | exact HB.out))))
      (case side2 => exact Kd.V_mk HC0_2.out (Kd.F_below (Kd.C_F k38_heap HR0_2.out) (by repeat (first | (with_reducible first | exact HB.out | apply below_alloc | apply pw_below_drewN | apply below_drew1 | refine below_set ?_ GE186.out) | exact HB.out))))
      (case side3 => exact Kd.V_mk HC0_3.out (Kd.F_below (Kd.C_F k38_heap HR0_3.out) (by repeat (first | (with_reducible first | exact HB.out | apply below_alloc | apply pw_below_drewN | apply below_drew1 | refine below_set ?_ GE186.out) | exact HB.out))))
      rintro e w8 ⟨v189, rfl, ho0, hb⟩
      refine ⟨_, rfl, ?_⟩
      have n0_ := Aside0.mk (Kd.R_lower (Kd.R_mono (ok' := fun k_ => True) ho0 (fun _ hk_ => trivial)) (below_size (by repeat (first | (with_reducible first | exact HB.out | apply below_alloc | apply pw_below_drewN | apply below_drew1 | refine below_set ?_ GE186.out) | exact HB.out))))
      have n1_ := Aside0.mk (blk_below (g := gb186) (o := .cells #[.int .i64 a0_0, .slice A0_1 l0_1.length c0_1, .slice A0_2 l0_2.length c0_2, .slice A0_3 l0_3.length c0_3] 29 (0, 0)) (by (with_reducible repeat (first | refine blk_drewN ?_ _ | refine blk_drew ?_ | refine blk_alloc ?_ _)); exact BK186.out) hb)
      have n2_ := Aside0.mk (below_step (by repeat (first | (with_reducible first | exact HB.out | apply below_alloc | apply pw_below_drewN | apply below_drew1 | refine below_set ?_ GE186.out) | exact HB.out)) hb)
      clear BK186
      clear HB
      have HO190 := n0_
      have BK186 := n1_
      have HB := n2_
      clear n0_ n1_ n2_
      (try clear hb)
      (try clear hb2)
      (try clear hk)
      (try clear hi)
      (try clear ho0)
      obtain ⟨Ao9, co9, eo9⟩ := Kd.R_slice HO190.out
      (first | subst eo9 | (injection eo9 with f1_ f2_ f3_; have f4_ := f1_.symm; have f5_ := f3_.symm; clear f1_ f2_ f3_; subst f4_; subst f5_))
      refine hK.out _ _ ⟨(blk_cell BK186.out 0).trans rfl, (blk_cell BK186.out 1).trans rfl, (blk_cell BK186.out 2).trans rfl, (blk_cell BK186.out 3).trans rfl⟩ (fun hHeld => ?_)
      clear hK K
      refine nx_ (N := some 13) ?_
      refine px_ (i := 7) (N := some 14) (bz 12 1023) (any_of HT_.out (by kernel_rfl)) ?_
      refine px_ (i := 10) (N := some 17) (bz 12 2047) (any_of HT_.out (by kernel_rfl)) ?_
      refine px_ (i := 11) (N := some 18) (bz 12 4095) (any_of HT_.out (by kernel_rfl)) ?_
      refine done_ (done_of HT_.out (by kernel_rfl)) ?_
      try go_wp2
      go_meet
      case rel => exact ⟨_, (decide ((t188.length : Int) > a0_0)), (by first | rfl | (simp; done) | (simp [*]; done)), H', ⟨by first | omega | exact Nat.le_refl _⟩, ⟨by (with_reducible repeat (first | refine blk_drewN ?_ _ | refine blk_drew ?_ | refine blk_alloc ?_ _)); exact BK186.out⟩, ⟨by repeat (first | (with_reducible first | exact HB.out | apply below_alloc | apply pw_below_drewN | apply below_drew1 | refine below_set ?_ GE186.out) | exact HB.out)⟩⟩
    · replace c5 := Bool.eq_false_iff.mpr c5
      subst c5
      rw [if_neg (show ¬ (false = true) by decide)] at H
      have H' := Aside0.mk H
      clear H
      try go_wp2
      have n0_ := Aside0.mk (blk_drew BK186.out)
      have n1_ := Aside0.mk (below_drew1 HB.out)
      clear BK186
      clear HB
      have BK186 := n0_
      have HB := n1_
      clear n0_ n1_
      refine start_ (n := 12) (S := fun w' => w'.cell? ⟨gb186, 0, none⟩ = some (.int .i64 a0_0) ∧ w'.cell? ⟨gb186, 1, none⟩ = some (.slice A0_1 l0_1.length c0_1) ∧ w'.cell? ⟨gb186, 2, none⟩ = some (.slice A0_2 l0_2.length c0_2) ∧ w'.cell? ⟨gb186, 3, none⟩ = some (.slice A0_3 l0_3.length c0_3)) (ds := []) (bz 12 0) (by kernel_rfl) rfl (by kernel_rfl) ⟨(blk_cell BK186.out 0).trans rfl, (blk_cell BK186.out 1).trans rfl, (blk_cell BK186.out 2).trans rfl, (blk_cell BK186.out 3).trans rfl⟩ (fun hHeld => ?_); refine with_tabW impl_LineOk.tab1 impl_LineOk.bits1 (fun HT_ HW_ => ?_)
      generalize w3.drew = w10 at BK186 HB hHeld ⊢
      refine px_ (i := 0) (N := some 7) (bz 12 1) (any_of HT_.out (by kernel_rfl)) ?_
      refine tx_ (i := 1) (N := some 8) (bz 12 3) rfl rfl (take_ofW HT_.out HW_.out (by kernel_rfl)) hHeld (by rintro w' ⟨s0, s1, s2, s3⟩; go_simp; with_reducible rfl) ?_
      refine one_ (i := 2) (N := some 9) (bz 12 7) rfl rfl (one_of HT_.out (by kernel_rfl)) (by decide) (fun K hK => ?_)
      refine goes_ Try.func12 (by kernel_rfl) rfl #[.int .i64 a0_0, .int .i64 1, .int .i64 16] (by rfl) rfl rfl (by (try simp only [List.map_toArray, List.map_cons, List.map_nil]); first | done | rfl | (simp only [List.length_drop, List.length_take]; rfl)) ?_
      with_reducible refine (impl_within.calls a0_0 1 16 false _ A4.out).mono ?_
      rintro e w' ⟨rfl, ⟨nd, rfl⟩⟩
      refine ⟨_, rfl, ?_⟩
      refine hK.out _ _ ⟨(blk_cell BK186.out 0).trans rfl, (blk_cell BK186.out 1).trans rfl, (blk_cell BK186.out 2).trans rfl, (blk_cell BK186.out 3).trans rfl⟩ (fun hHeld => ?_)
      clear hK K
      refine nx_ (N := some 9) ?_
      refine px_ (i := 3) (N := some 10) (bz 12 15) (any_of HT_.out (by kernel_rfl)) ?_
      refine px_ (i := 4) (N := some 11) (bz 12 31) (any_of HT_.out (by kernel_rfl)) ?_
      refine ox_ (i := 5) (N := some 12) (bz 12 63) (any_of HT_.out (by kernel_rfl)) ?_
      refine ox_ (i := 6) (N := some 13) (bz 12 127) (any_of HT_.out (by kernel_rfl)) ?_
      refine ox_ (i := 7) (N := some 14) (bz 12 255) (any_of HT_.out (by kernel_rfl)) ?_
      refine ox_ (i := 8) (N := some 15) (bz 12 511) (any_of HT_.out (by kernel_rfl)) ?_
      refine ox_ (i := 9) (N := some 16) (bz 12 1023) (any_of HT_.out (by kernel_rfl)) ?_
      refine ox_ (i := 10) (N := some 17) (bz 12 2047) (any_of HT_.out (by kernel_rfl)) ?_
      refine px_ (i := 11) (N := some 18) (bz 12 4095) (any_of HT_.out (by kernel_rfl)) ?_
      refine done_ (done_of HT_.out (by kernel_rfl)) ?_
      try go_wp2
      go_meet
      case rel => exact ⟨_, (true), (by first | rfl | (simp; done) | (simp [*]; done)), H', ⟨by first | omega | exact Nat.le_refl _⟩, ⟨by (with_reducible repeat (first | refine blk_drewN ?_ _ | refine blk_drew ?_ | refine blk_alloc ?_ _)); exact BK186.out⟩, ⟨by repeat (first | (with_reducible first | exact HB.out | apply below_alloc | apply pw_below_drewN | apply below_drew1 | refine below_set ?_ GE186.out) | exact HB.out)⟩⟩
  case rest =>
    clear HC2
    try clear c1
    try clear p2
    try clear c5
    try clear c7
    obtain ⟨kq, x18_1, rfl, HA, HJ1, BK186, HB⟩ := hcut
    cases kq with
    | zero => exact absurd HA.out (by simp [impl_LineOk.j0])
    | succ kj1 =>
      have H := HA.out
      clear HA
      simp only [impl_LineOk.j0] at H
      by_cases c11 : x18_1 = true
      · subst c11
        rw [if_pos rfl] at H
        obtain rfl := Option.some.inj H
        go_wp2
        go_ret
        exact ⟨by first | rfl | (simp [errW_none, errW_some] <;> rfl) | (simp [*, errW_none, errW_some] <;> rfl), by repeat (first | (with_reducible first | exact HB.out | apply below_alloc | apply pw_below_drewN | apply below_drew1 | refine below_set ?_ GE186.out) | exact HB.out)⟩
      · replace c11 := Bool.eq_false_iff.mpr c11
        subst c11
        rw [if_neg (show ¬ (false = true) by decide)] at H
        obtain ⟨t192, A120, H⟩ := Option.bind_eq_some_iff.mp H
        (try dsimp only at H)
        have A12 := Aside0.mk A120
        clear A120
        have H' := Aside0.mk H
        clear H
        go_wp2_with (first | ((with_reducible refine gate_dst (N := 19) rfl ?_); (try (refine gate_guard (by rfl) ?_; dsimp only)); refine map_event ?hg (N := 19) ?hd (t := 42) Value.bool ?ho ?_; (case hd => rfl); (case hg => rfl); (case ho => rfl); intro gb191 hg w13 hbox hb; have n0_ := Aside0.mk (blk_below (g := gb186) (o := .cells #[.int .i64 a0_0, .slice A0_1 l0_1.length c0_1, .slice A0_2 l0_2.length c0_2, .slice A0_3 l0_3.length c0_3] 29 (0, 0)) (by (with_reducible repeat (first | refine blk_drewN ?_ _ | refine blk_drew ?_ | refine blk_alloc ?_ _)); exact BK186.out) hb); have n1_ := Aside0.mk (below_step (by repeat (first | (with_reducible first | exact HB.out | apply below_alloc | apply pw_below_drewN | apply below_drew1 | refine below_set ?_ GE186.out) | exact HB.out)) hb); have n2_ := Aside0.mk (hbox); have n3_ := Aside0.mk ((by rw [hg]; exact (below_size (by repeat (first | (with_reducible first | exact HB.out | apply below_alloc | apply pw_below_drewN | apply below_drew1 | refine below_set ?_ GE186.out) | exact HB.out))) : w.heap.size ≤ gb191)); have n4_ := Aside0.mk ((by rw [hg]; exact (below_size (by repeat (first | (with_reducible first | exact HB.out | apply below_alloc | apply pw_below_drewN | apply below_drew1 | refine below_set ?_ GE186.out) | exact HB.out))) : w.heap.size ≤ gb191)); have n5_ := Aside0.mk ((by rw [hg]; exact Nat.ne_of_lt (blk_lt (g := gb186) (o := .cells #[.int .i64 a0_0, .slice A0_1 l0_1.length c0_1, .slice A0_2 l0_2.length c0_2, .slice A0_3 l0_3.length c0_3] 29 (0, 0)) (by (with_reducible repeat (first | refine blk_drewN ?_ _ | refine blk_drew ?_ | refine blk_alloc ?_ _)); exact BK186.out)) : gb186 ≠ gb191)); have n6_ := Aside0.mk ((by rw [hg]; exact Nat.ne_of_gt (blk_lt (g := gb186) (o := .cells #[.int .i64 a0_0, .slice A0_1 l0_1.length c0_1, .slice A0_2 l0_2.length c0_2, .slice A0_3 l0_3.length c0_3] 29 (0, 0)) (by (with_reducible repeat (first | refine blk_drewN ?_ _ | refine blk_drew ?_ | refine blk_alloc ?_ _)); exact BK186.out)) : gb191 ≠ gb186)); clear BK186; clear HB; have BK186 := n0_; have HB := n1_; have BK191 := n2_; have GW191 := n3_; have GE191 := n4_; have NB186_191 := n5_; have NB191_186 := n6_; clear n0_ n1_ n2_ n3_ n4_ n5_ n6_; clear hb hbox hg; (try have hnb14 := NB186_191.out); (try have hnc14 := NB191_186.out); have hcz15_0 : w13.cell? ⟨gb186, 0, none⟩ = some (.int .i64 a0_0) := (blk_cell BK186.out 0).trans rfl; have hcz15_1 : w13.cell? ⟨gb186, 1, none⟩ = some (.slice A0_1 l0_1.length c0_1) := (blk_cell BK186.out 1).trans rfl; have hcz15_2 : w13.cell? ⟨gb186, 2, none⟩ = some (.slice A0_2 l0_2.length c0_2) := (blk_cell BK186.out 2).trans rfl; have hcz15_3 : w13.cell? ⟨gb186, 3, none⟩ = some (.slice A0_3 l0_3.length c0_3) := (blk_cell BK186.out 3).trans rfl; have hfz15_0 := blk_frozen BK186.out 0; have hfz15_1 := blk_frozen BK186.out 1; have hfz15_2 := blk_frozen BK186.out 2; have hfz15_3 := blk_frozen BK186.out 3) | ((with_reducible refine gate_callee (f := 13) rfl ?_); refine goesL_ (some 21) rfl rfl Try.func13 (by kernel_rfl) rfl #[.agg #[.int .i64 a0_0, .slice A0_1 l0_1.length c0_1, .slice A0_2 l0_2.length c0_2, .slice A0_3 l0_3.length c0_3]] rfl (by (try simp only [List.map_toArray, List.map_cons, List.map_nil]); first | done | rfl | (simp only [List.length_drop, List.length_take]; rfl)) ?_; (with_reducible refine (impl_Line_jobs.calls kj1 a0_0 (fun k_ => k_ < w.heap.size) _ _ l0_1 (fun k_ => k_ < w.heap.size) _ _ l0_2 (fun k_ => k_ < w.heap.size) _ _ l0_3 t192 _ ?side1 ?side2 ?side3 A12.out).mono ?_); (case side1 => exact Kd.V_mk HC0_1.out (Kd.F_below (Kd.C_F k38_heap HR0_1.out) (by repeat (first | (with_reducible first | exact HB.out | apply below_alloc | apply pw_below_drewN | apply below_drew1 | refine below_set ?_ GE186.out | refine below_set ?_ GE191.out) | exact HB.out)))); (case side2 => exact Kd.V_mk HC0_2.out (Kd.F_below (Kd.C_F k38_heap HR0_2.out) (by repeat (first | (with_reducible first | exact HB.out | apply below_alloc | apply pw_below_drewN | apply below_drew1 | refine below_set ?_ GE186.out | refine below_set ?_ GE191.out) | exact HB.out)))); (case side3 => exact Kd.V_mk HC0_3.out (Kd.F_below (Kd.C_F k38_heap HR0_3.out) (by repeat (first | (with_reducible first | exact HB.out | apply below_alloc | apply pw_below_drewN | apply below_drew1 | refine below_set ?_ GE186.out | refine below_set ?_ GE191.out) | exact HB.out)))); rintro e w16 ⟨v193, rfl, ho0, hb⟩; refine ⟨_, rfl, ?_⟩; have n0_ := Aside0.mk (Kd.R_lower (Kd.R_newB (Kd.R_mono (ok' := fun k_ => True) ho0 (fun _ hk_ => trivial)) (g := gb191) (o := mapB Value.bool ([] : List (Int × Bool))) (by (with_reducible repeat (first | refine blk_drewN ?_ _ | refine blk_drew ?_ | refine blk_alloc ?_ _)); exact BK191.out)) (below_size (by repeat (first | (with_reducible first | exact HB.out | apply below_alloc | apply pw_below_drewN | apply below_drew1 | refine below_set ?_ GE186.out | refine below_set ?_ GE191.out) | exact HB.out)))); have n1_ := Aside0.mk (blk_below (g := gb186) (o := .cells #[.int .i64 a0_0, .slice A0_1 l0_1.length c0_1, .slice A0_2 l0_2.length c0_2, .slice A0_3 l0_3.length c0_3] 29 (0, 0)) (by (with_reducible repeat (first | refine blk_drewN ?_ _ | refine blk_drew ?_ | refine blk_alloc ?_ _)); exact BK186.out) hb); have n2_ := Aside0.mk (blk_below (g := gb191) (o := mapB Value.bool ([] : List (Int × Bool))) (by (with_reducible repeat (first | refine blk_drewN ?_ _ | refine blk_drew ?_ | refine blk_alloc ?_ _)); exact BK191.out) hb); have n3_ := Aside0.mk (below_step (by repeat (first | (with_reducible first | exact HB.out | apply below_alloc | apply pw_below_drewN | apply below_drew1 | refine below_set ?_ GE186.out | refine below_set ?_ GE191.out) | exact HB.out)) hb); clear BK186; clear BK191; clear HB; have HO194 := n0_; have BK186 := n1_; have BK191 := n2_; have HB := n3_; clear n0_ n1_ n2_ n3_; (try clear hb); (try clear hb2); (try clear hk); (try clear hi); (try clear ho0); obtain ⟨Ao17, co17, eo17⟩ := Kd.R_slice HO194.out; subst eo17))
        go_loopg [23] kj1 (fun kq v23 w' => ∃ (x23_2 : Int) (x192000_2 : List (Int × Bool)), v23 = .int .i64 x23_2 ∧ Aside0 (impl_LineOk.l0 kq t192 (t192.length : Int) x23_2 a0_0 l0_1 l0_2 l0_3 x192000_2 = some r) ∧ Aside0 (kq ≤ kj1) ∧ Aside0 (Kd.R k38 38 w' w.heap.size (fun k_ => k_ ≠ gb191) (.slice Ao17 t192.length co17) t192) ∧ Aside0 (w'.heap[gb186]? = some (.cells #[.int .i64 a0_0, (.slice A0_1 l0_1.length c0_1), (.slice A0_2 l0_2.length c0_2), (.slice A0_3 l0_3.length c0_3)] 29 (0, 0))) ∧ Aside0 (w'.heap[gb191]? = some (mapB Value.bool x192000_2)) ∧ Aside0 (Below w.heap.size w w'))
        case atStart => exact ⟨(0), (([] : List (Int × Bool))), (by first | rfl | (simp; done) | (simp [*]; done)), H', ⟨Nat.le_refl _⟩, ⟨by (with_reducible repeat (first | apply Kd.R_alloc | apply Kd.R_drewN | apply Kd.R_drew)); exact Kd.R_mono HO194.out (fun _ hk => hk.2)⟩, ⟨by (with_reducible repeat (first | refine blk_drewN ?_ _ | refine blk_drew ?_ | refine blk_alloc ?_ _)); exact BK186.out⟩, ⟨by (with_reducible repeat (first | refine blk_drewN ?_ _ | refine blk_drew ?_ | refine blk_alloc ?_ _)); exact BK191.out⟩, ⟨by repeat (first | (with_reducible first | exact HB.out | apply below_alloc | apply pw_below_drewN | apply below_drew1 | refine below_set ?_ GE186.out | refine below_set ?_ GE191.out) | exact HB.out)⟩⟩
        case round =>
          clear H'
          try clear c1
          try clear p2
          try clear c5
          try clear c7
          try clear c11
          try clear c12
          try clear c13
          try clear c14
          try clear hcz15_0
          try clear hcz15_1
          try clear hcz15_2
          try clear hcz15_3
          try clear hfz15_0
          try clear hfz15_1
          try clear hfz15_2
          try clear hfz15_3
          try clear p2
          obtain ⟨x23_2, x192000_2, rfl, HA, HK2, HO_21, BK186, BK191, HB⟩ := hrel
          cases gk with
          | zero => exact absurd HA.out (by simp [impl_LineOk.l0])
          | succ k2 =>
            have H := HA.out
            clear HA
            simp only [impl_LineOk.l0] at H
            by_cases c18 : x23_2 < (t192.length : Int)
            · rw [if_pos c18] at H
              have c18b0 : decide (x23_2 < (t192.length : Int)) = true := decide_eq_true c18
              clear c18
              by_cases c19 : 0 ≤ x23_2
              · rw [if_pos c19] at H
                have c19b0 : decide (0 ≤ x23_2) = true := decide_eq_true c19
                clear c19
                by_cases c20 : x23_2 < (t192.length : Int)
                · rw [if_pos c20] at H
                  have c20b0 : decide (x23_2 < (t192.length : Int)) = true := decide_eq_true c20
                  clear c20
                  obtain ⟨t197, A210, H⟩ := Option.bind_eq_some_iff.mp H
                  (try dsimp only at H)
                  have A21 := Aside0.mk A210
                  clear A210
                  have HU22 := Aside0.mk H
                  clear H
                  have p195 : 0 ≤ (x23_2 : Int) := of_decide_eq_true (by first | (with_reducible assumption) | assumption)
                  have q195 : x23_2 < (t192.length : Int) := of_decide_eq_true (by first | (with_reducible assumption) | assumption)
                  obtain ⟨ad195, e195, hx195_0, hx195_1, hx195_2, hx195_3⟩ := at_T38 (Kd.R_reads' HO_21.out).2.2 x23_2 p195 q195
                  cases e195
                  replace p195 := eq_true p195
                  replace q195 := eq_true q195
                  go_upto_if 31 with (first | ((with_reducible refine gate_dst (N := 5) rfl ?_); (try (refine gate_guard (by rfl) ?_; dsimp only)); refine box_event ?hg (N := 5) ?hd (cs := #[.int .i64 0, .int .i64 0, .int .i64 0, .int .i64 0]) (t := 38) ?hr ?_; (case hd => rfl); (case hg => rfl); (case hr => first | (go_simp; done) | (go_simp; rfl)); intro gb196 hg w23 hbox hb; have n0_ := Aside0.mk (Kd.R_below (Kd.R_elderB (by (with_reducible repeat (first | apply Kd.R_alloc | apply Kd.R_drewN | apply Kd.R_drew)); exact HO_21.out) gb196 (Nat.le_of_eq hg.symm)) hb); have n1_ := Aside0.mk (blk_below (g := gb186) (o := .cells #[.int .i64 a0_0, .slice A0_1 l0_1.length c0_1, .slice A0_2 l0_2.length c0_2, .slice A0_3 l0_3.length c0_3] 29 (0, 0)) (by (with_reducible repeat (first | refine blk_drewN ?_ _ | refine blk_drew ?_ | refine blk_alloc ?_ _)); exact BK186.out) hb); have n2_ := Aside0.mk (blk_below (g := gb191) (o := mapB Value.bool x192000_2) (by (with_reducible repeat (first | refine blk_drewN ?_ _ | refine blk_drew ?_ | refine blk_alloc ?_ _)); exact BK191.out) hb); have n3_ := Aside0.mk (below_step (by repeat (first | (with_reducible first | exact HB.out | apply below_alloc | apply pw_below_drewN | apply below_drew1 | refine below_set ?_ GE186.out | refine below_set ?_ GE191.out) | exact HB.out)) hb); have n4_ := Aside0.mk (hbox); have n5_ := Aside0.mk ((by rw [hg]; exact (below_size (by repeat (first | (with_reducible first | exact HB.out | apply below_alloc | apply pw_below_drewN | apply below_drew1 | refine below_set ?_ GE186.out | refine below_set ?_ GE191.out) | exact HB.out))) : w.heap.size ≤ gb196)); have n6_ := Aside0.mk ((by rw [hg]; exact (below_size (by repeat (first | (with_reducible first | exact HB.out | apply below_alloc | apply pw_below_drewN | apply below_drew1 | refine below_set ?_ GE186.out | refine below_set ?_ GE191.out) | exact HB.out))) : w.heap.size ≤ gb196)); have n7_ := Aside0.mk ((by rw [hg]; exact Nat.ne_of_lt (blk_lt (g := gb186) (o := .cells #[.int .i64 a0_0, .slice A0_1 l0_1.length c0_1, .slice A0_2 l0_2.length c0_2, .slice A0_3 l0_3.length c0_3] 29 (0, 0)) (by (with_reducible repeat (first | refine blk_drewN ?_ _ | refine blk_drew ?_ | refine blk_alloc ?_ _)); exact BK186.out)) : gb186 ≠ gb196)); have n8_ := Aside0.mk ((by rw [hg]; exact Nat.ne_of_gt (blk_lt (g := gb186) (o := .cells #[.int .i64 a0_0, .slice A0_1 l0_1.length c0_1, .slice A0_2 l0_2.length c0_2, .slice A0_3 l0_3.length c0_3] 29 (0, 0)) (by (with_reducible repeat (first | refine blk_drewN ?_ _ | refine blk_drew ?_ | refine blk_alloc ?_ _)); exact BK186.out)) : gb196 ≠ gb186)); have n9_ := Aside0.mk ((by rw [hg]; exact Nat.ne_of_lt (blk_lt (g := gb191) (o := mapB Value.bool x192000_2) (by (with_reducible repeat (first | refine blk_drewN ?_ _ | refine blk_drew ?_ | refine blk_alloc ?_ _)); exact BK191.out)) : gb191 ≠ gb196)); have n10_ := Aside0.mk ((by rw [hg]; exact Nat.ne_of_gt (blk_lt (g := gb191) (o := mapB Value.bool x192000_2) (by (with_reducible repeat (first | refine blk_drewN ?_ _ | refine blk_drew ?_ | refine blk_alloc ?_ _)); exact BK191.out)) : gb196 ≠ gb191)); clear HO_21; clear BK186; clear BK191; clear HB; have HO_21 := n0_; have BK186 := n1_; have BK191 := n2_; have HB := n3_; have BK196 := n4_; have GW196 := n5_; have GE196 := n6_; have NB186_196 := n7_; have NB196_186 := n8_; have NB191_196 := n9_; have NB196_191 := n10_; clear n0_ n1_ n2_ n3_ n4_ n5_ n6_ n7_ n8_ n9_ n10_; clear hb hbox hg; (try have hnb24 := NB196_186.out); (try have hnc24 := NB186_196.out); (try have hnb25 := NB196_191.out); (try have hnc25 := NB191_196.out); have hcz26_0 : w23.cell? ⟨gb196, 0, none⟩ = some (.int .i64 0) := (blk_cell BK196.out 0).trans rfl; have hcz26_1 : w23.cell? ⟨gb196, 1, none⟩ = some (.int .i64 0) := (blk_cell BK196.out 1).trans rfl; have hcz26_2 : w23.cell? ⟨gb196, 2, none⟩ = some (.int .i64 0) := (blk_cell BK196.out 2).trans rfl; have hcz26_3 : w23.cell? ⟨gb196, 3, none⟩ = some (.int .i64 0) := (blk_cell BK196.out 3).trans rfl; have hfz26_0 := blk_frozen BK196.out 0; have hfz26_1 := blk_frozen BK196.out 1; have hfz26_2 := blk_frozen BK196.out 2; have hfz26_3 := blk_frozen BK196.out 3) | ((with_reducible refine gate_callee (f := 14) rfl ?_); refine goesL_ (some 30) rfl rfl Try.func14 (by kernel_rfl) rfl #[.agg #[.int .i64 ((rd_T38 t192 x23_2).f1.f0), .int .i64 ((rd_T38 t192 x23_2).f1.f1), .int .i64 ((rd_T38 t192 x23_2).f1.f2)]] rfl (by (try simp only [List.map_toArray, List.map_cons, List.map_nil]); first | done | rfl | (simp only [List.length_drop, List.length_take]; rfl)) ?_; (with_reducible refine (impl_CostOk.calls ((rd_T38 t192 x23_2).f1.f0) ((rd_T38 t192 x23_2).f1.f1) ((rd_T38 t192 x23_2).f1.f2) t197 _ A21.out).mono ?_); rintro e w27 ⟨rfl, hb⟩; refine ⟨_, rfl, ?_⟩; have n0_ := Aside0.mk (Kd.R_below (by (with_reducible repeat (first | apply Kd.R_alloc | apply Kd.R_drewN | apply Kd.R_drew)); exact (Kd.R_mono (Kd.R_far (p := ⟨gb196, 3, none⟩) (Kd.R_far (p := ⟨gb196, 2, none⟩) (Kd.R_far (p := ⟨gb196, 1, none⟩) (Kd.R_far (p := ⟨gb196, 0, none⟩) (Kd.R_mono HO_21.out (fun k_ hk => (⟨hk, hk.2⟩ : _ ∧ k_ ≠ gb196))) (fun _ hk => hk.2) (.int .i64 ((rd_T38 t192 x23_2).f0))) (fun _ hk => hk.2) (.int .i64 ((rd_T38 t192 x23_2).f1.f0))) (fun _ hk => hk.2) (.int .i64 ((rd_T38 t192 x23_2).f1.f1))) (fun _ hk => hk.2) (.int .i64 ((rd_T38 t192 x23_2).f1.f2))) (fun _ h_ => h_.1))) hb); have n1_ := Aside0.mk (blk_below (g := gb186) (o := .cells #[.int .i64 a0_0, .slice A0_1 l0_1.length c0_1, .slice A0_2 l0_2.length c0_2, .slice A0_3 l0_3.length c0_3] 29 (0, 0)) (by (with_reducible repeat (first | refine blk_drewN ?_ _ | refine blk_drew ?_ | refine blk_alloc ?_ _)); refine blk_far ?_ NB186_196.out _; (with_reducible repeat (first | refine blk_drewN ?_ _ | refine blk_drew ?_ | refine blk_alloc ?_ _)); refine blk_far ?_ NB186_196.out _; (with_reducible repeat (first | refine blk_drewN ?_ _ | refine blk_drew ?_ | refine blk_alloc ?_ _)); refine blk_far ?_ NB186_196.out _; (with_reducible repeat (first | refine blk_drewN ?_ _ | refine blk_drew ?_ | refine blk_alloc ?_ _)); refine blk_far ?_ NB186_196.out _; (with_reducible repeat (first | refine blk_drewN ?_ _ | refine blk_drew ?_ | refine blk_alloc ?_ _)); exact BK186.out) hb); have n2_ := Aside0.mk (blk_below (g := gb191) (o := mapB Value.bool x192000_2) (by (with_reducible repeat (first | refine blk_drewN ?_ _ | refine blk_drew ?_ | refine blk_alloc ?_ _)); refine blk_farM ?_ NB191_196.out _; (with_reducible repeat (first | refine blk_drewN ?_ _ | refine blk_drew ?_ | refine blk_alloc ?_ _)); refine blk_farM ?_ NB191_196.out _; (with_reducible repeat (first | refine blk_drewN ?_ _ | refine blk_drew ?_ | refine blk_alloc ?_ _)); refine blk_farM ?_ NB191_196.out _; (with_reducible repeat (first | refine blk_drewN ?_ _ | refine blk_drew ?_ | refine blk_alloc ?_ _)); refine blk_farM ?_ NB191_196.out _; (with_reducible repeat (first | refine blk_drewN ?_ _ | refine blk_drew ?_ | refine blk_alloc ?_ _)); exact BK191.out) hb); have n3_ := Aside0.mk (blk_below (g := gb196) (o := .cells #[.int .i64 ((rd_T38 t192 x23_2).f0), .int .i64 ((rd_T38 t192 x23_2).f1.f0), .int .i64 ((rd_T38 t192 x23_2).f1.f1), .int .i64 ((rd_T38 t192 x23_2).f1.f2)] 38 (0, 0)) (by (with_reducible repeat (first | refine blk_drewN ?_ _ | refine blk_drew ?_ | refine blk_alloc ?_ _)); refine blk_put (cs := #[.int .i64 ((rd_T38 t192 x23_2).f0), .int .i64 ((rd_T38 t192 x23_2).f1.f0), .int .i64 ((rd_T38 t192 x23_2).f1.f1), .int .i64 0]) ?_ 3 _ rfl; (with_reducible repeat (first | refine blk_drewN ?_ _ | refine blk_drew ?_ | refine blk_alloc ?_ _)); refine blk_put (cs := #[.int .i64 ((rd_T38 t192 x23_2).f0), .int .i64 ((rd_T38 t192 x23_2).f1.f0), .int .i64 0, .int .i64 0]) ?_ 2 _ rfl; (with_reducible repeat (first | refine blk_drewN ?_ _ | refine blk_drew ?_ | refine blk_alloc ?_ _)); refine blk_put (cs := #[.int .i64 ((rd_T38 t192 x23_2).f0), .int .i64 0, .int .i64 0, .int .i64 0]) ?_ 1 _ rfl; (with_reducible repeat (first | refine blk_drewN ?_ _ | refine blk_drew ?_ | refine blk_alloc ?_ _)); refine blk_put (cs := #[.int .i64 0, .int .i64 0, .int .i64 0, .int .i64 0]) ?_ 0 _ rfl; (with_reducible repeat (first | refine blk_drewN ?_ _ | refine blk_drew ?_ | refine blk_alloc ?_ _)); exact BK196.out) hb); have n4_ := Aside0.mk (below_step (by repeat (first | (with_reducible first | exact HB.out | apply below_alloc | apply pw_below_drewN | apply below_drew1 | refine below_set ?_ GE186.out | refine below_set ?_ GE191.out | refine below_set ?_ GE196.out) | exact HB.out)) hb); clear HO_21; clear BK186; clear BK191; clear BK196; clear HB; have HO_21 := n0_; have BK186 := n1_; have BK191 := n2_; have BK196 := n3_; have HB := n4_; clear n0_ n1_ n2_ n3_ n4_; (try clear hb); (try clear hb2); (try clear hk); (try clear hi); (try have hnb28 := NB186_191.out); (try have hnc28 := NB191_186.out); have hcz29_0 : w27.cell? ⟨gb186, 0, none⟩ = some (.int .i64 a0_0) := (blk_cell BK186.out 0).trans rfl; have hcz29_1 : w27.cell? ⟨gb186, 1, none⟩ = some (.slice A0_1 l0_1.length c0_1) := (blk_cell BK186.out 1).trans rfl; have hcz29_2 : w27.cell? ⟨gb186, 2, none⟩ = some (.slice A0_2 l0_2.length c0_2) := (blk_cell BK186.out 2).trans rfl; have hcz29_3 : w27.cell? ⟨gb186, 3, none⟩ = some (.slice A0_3 l0_3.length c0_3) := (blk_cell BK186.out 3).trans rfl; have hfz29_0 := blk_frozen BK186.out 0; have hfz29_1 := blk_frozen BK186.out 1; have hfz29_2 := blk_frozen BK186.out 2; have hfz29_3 := blk_frozen BK186.out 3))
                  have H := HU22.out
                  clear HU22
                  by_cases c30 : x23_2 ≥ (wrap64 ((l0_1.length : Int) + (l0_2.length : Int)))
                  · rw [if_pos c30] at H
                    have c30b0 : decide ((wrap64 ((l0_1.length : Int) + (l0_2.length : Int))) ≤ x23_2) = true := decide_eq_true c30
                    clear c30
                    (first | rw [c30b0] | (simp only [i64_w, i32_w]; rw [c30b0]) | (have cz_ := c30b0; simp only [bne, gt_iff_lt, Int.natCast_pos] at cz_; first | rw [cz_] | (simp only [i64_w, i32_w]; rw [cz_])) | skip)
                    by_cases c31 : ((rd_T38 t192 x23_2).f1.f0) = 0
                    · rw [if_pos c31] at H
                      have c31b0 : (((rd_T38 t192 x23_2).f1.f0) == 0) = true := beq_iff_eq.mpr c31
                      have c31b1 : (((rd_T38 t192 x23_2).f1.f0) != 0) = false := bne_eq_false_iff_eq.mpr c31
                      clear c31
                      by_cases c32 : ((rd_T38 t192 x23_2).f1.f1) = 0
                      · rw [if_pos c32] at H
                        have c32b0 : (((rd_T38 t192 x23_2).f1.f1) == 0) = true := beq_iff_eq.mpr c32
                        have c32b1 : (((rd_T38 t192 x23_2).f1.f1) != 0) = false := bne_eq_false_iff_eq.mpr c32
                        clear c32
                        obtain ⟨t198, A330, H⟩ := Option.bind_eq_some_iff.mp H
                        (try dsimp only at H)
                        have A33 := Aside0.mk A330
                        clear A330
                        by_cases c34 : t198 = true
                        · subst c34
                          rw [if_pos rfl] at H
                          obtain ⟨t199, A350, H⟩ := Option.bind_eq_some_iff.mp H
                          (try dsimp only at H)
                          have A35 := Aside0.mk A350
                          clear A350
                          by_cases c36 : t199 = true
                          · subst c36
                            rw [if_pos rfl] at H
                            have HU37 := Aside0.mk H
                            clear H
                            (try have hnb38 := NB196_186.out)
                            (try have hnc38 := NB186_196.out)
                            (try have hnb39 := NB196_191.out)
                            (try have hnc39 := NB191_196.out)
                            have hcz40_0 : w27.cell? ⟨gb196, 0, none⟩ = some (.int .i64 ((rd_T38 t192 x23_2).f0)) := (blk_cell BK196.out 0).trans rfl
                            have hcz40_1 : w27.cell? ⟨gb196, 1, none⟩ = some (.int .i64 ((rd_T38 t192 x23_2).f1.f0)) := (blk_cell BK196.out 1).trans rfl
                            have hcz40_2 : w27.cell? ⟨gb196, 2, none⟩ = some (.int .i64 ((rd_T38 t192 x23_2).f1.f1)) := (blk_cell BK196.out 2).trans rfl
                            have hcz40_3 : w27.cell? ⟨gb196, 3, none⟩ = some (.int .i64 ((rd_T38 t192 x23_2).f1.f2)) := (blk_cell BK196.out 3).trans rfl
                            have hfz40_0 := blk_frozen BK196.out 0
                            have hfz40_1 := blk_frozen BK196.out 1
                            have hfz40_2 := blk_frozen BK196.out 2
                            have hfz40_3 := blk_frozen BK196.out 3
                            go_upto_if 92 with (first | (go_at_call 15; (with_reducible refine (impl_isNeed.calls ((rd_T38 t192 x23_2).f1.f2) true _ A33.out).mono ?_); rintro e w' ⟨rfl, ⟨nd, rfl⟩⟩) | (go_at_call 12; (with_reducible refine (impl_within.calls ((rd_T38 t192 x23_2).f0) 0 1000000000000 true _ A35.out).mono ?_); rintro e w' ⟨rfl, ⟨nd, rfl⟩⟩) | ((with_reducible refine gate_dst (N := 91) rfl ?_); (try (refine gate_guard (by rfl) ?_; dsimp only)); refine mlook_event (enc := Value.bool) (M := x192000_2) (d := false) (g := gb191) (x := ((rd_T38 t192 x23_2).f0)) (t := 42) (kt := 3) (et := 4) (m := .tmp 88) (k := .tmp 90) ?hg (N := 91) ?hd ?ho ?hm ?hk Try.underlying42 Try.underlying3 (by kernel_rfl) ?hb ?_; (case hd => rfl); (case hg => rfl); (case ho => rfl); (case hm => first | rfl | (go_simp; done)); (case hk => first | rfl | (go_simp; done)); (case hb => ((with_reducible repeat (first | refine blk_drewN ?_ _ | refine blk_drew ?_ | refine blk_alloc ?_ _)); exact BK191.out))))
                            have H := HU37.out
                            clear HU37
                            by_cases c41 : mlook false x192000_2 ((rd_T38 t192 x23_2).f0) = true
                            · rw [if_pos c41] at H
                              have c41b0 : mlook false x192000_2 ((rd_T38 t192 x23_2).f0) = true := c41
                              clear c41
                              (first | rw [c41b0] | (simp only [i64_w, i32_w]; rw [c41b0]) | (have cz_ := c41b0; simp only [bne, gt_iff_lt, Int.natCast_pos] at cz_; first | rw [cz_] | (simp only [i64_w, i32_w]; rw [cz_])) | skip)
                              obtain rfl := Option.some.inj H
                              go_wp2
                              go_ret
                              exact ⟨by first | rfl | (simp [errW_none, errW_some] <;> rfl) | (simp [*, errW_none, errW_some] <;> rfl), by repeat (first | (with_reducible first | exact HB.out | apply below_alloc | apply pw_below_drewN | apply below_drew1 | refine below_set ?_ GE186.out | refine below_set ?_ GE191.out | refine below_set ?_ GE196.out) | exact HB.out)⟩
                            · rw [if_neg c41] at H
                              have c41b0 : mlook false x192000_2 ((rd_T38 t192 x23_2).f0) = false := by simpa using c41
                              clear c41
                              (first | rw [c41b0] | (simp only [i64_w, i32_w]; rw [c41b0]) | (have cz_ := c41b0; simp only [bne, gt_iff_lt, Int.natCast_pos] at cz_; first | rw [cz_] | (simp only [i64_w, i32_w]; rw [cz_])) | skip)
                              have H' := Aside0.mk H
                              clear H
                              (try have hnb42 := NB196_186.out)
                              (try have hnc42 := NB186_196.out)
                              (try have hnb43 := NB196_191.out)
                              (try have hnc43 := NB191_196.out)
                              have hcz44_0 : w27.cell? ⟨gb196, 0, none⟩ = some (.int .i64 ((rd_T38 t192 x23_2).f0)) := (blk_cell BK196.out 0).trans rfl
                              have hcz44_1 : w27.cell? ⟨gb196, 1, none⟩ = some (.int .i64 ((rd_T38 t192 x23_2).f1.f0)) := (blk_cell BK196.out 1).trans rfl
                              have hcz44_2 : w27.cell? ⟨gb196, 2, none⟩ = some (.int .i64 ((rd_T38 t192 x23_2).f1.f1)) := (blk_cell BK196.out 2).trans rfl
                              have hcz44_3 : w27.cell? ⟨gb196, 3, none⟩ = some (.int .i64 ((rd_T38 t192 x23_2).f1.f2)) := (blk_cell BK196.out 3).trans rfl
                              have hfz44_0 := blk_frozen BK196.out 0
                              have hfz44_1 := blk_frozen BK196.out 1
                              have hfz44_2 := blk_frozen BK196.out 2
                              have hfz44_3 := blk_frozen BK196.out 3
                              go_wp2_with (first | ((with_reducible refine gate_map (t := 42) rfl ?_); refine mput_event (enc := Value.bool) (M := x192000_2) (g := gb191) (x := ((rd_T38 t192 x23_2).f0)) (y := true) (t := 42) (kt := 3) (et := 4) (m := .tmp 93) (k := .tmp 95) (v := .const (.bool true)) ?hg ?hd ?ho ?hm ?hk ?hv Try.underlying42 Try.underlying3 ?hb ?_; (case hd => rfl); (case hg => rfl); (case ho => rfl); (case hm => first | rfl | (go_simp; done)); (case hk => first | rfl | (go_simp; done)); (case hv => first | rfl | (go_simp; done)); (case hb => (with_reducible repeat (first | refine blk_drewN ?_ _ | refine blk_drew ?_ | refine blk_alloc ?_ _)); exact BK191.out); intro w45 hbx hg; have n0_ := Aside0.mk (Kd.R_grown (ok := (fun k_ => (k_ ≠ gb191 ∧ k_ ≠ gb196))) (by (with_reducible repeat (first | apply Kd.R_alloc | apply Kd.R_drewN | apply Kd.R_drew)); exact HO_21.out) hg (fun k_ hk e_ => hk.1 (Option.some.inj e_))); have n1_ := Aside0.mk (blk_grown (g := gb186) (o := .cells #[.int .i64 a0_0, .slice A0_1 l0_1.length c0_1, .slice A0_2 l0_2.length c0_2, .slice A0_3 l0_3.length c0_3] 29 (0, 0)) (by (with_reducible repeat (first | refine blk_drewN ?_ _ | refine blk_drew ?_ | refine blk_alloc ?_ _)); exact BK186.out) hg (fun e_ => NB186_191.out (Option.some.inj e_))); have n2_ := Aside0.mk (hbx); have n3_ := Aside0.mk (blk_grown (g := gb196) (o := .cells #[.int .i64 ((rd_T38 t192 x23_2).f0), .int .i64 ((rd_T38 t192 x23_2).f1.f0), .int .i64 ((rd_T38 t192 x23_2).f1.f1), .int .i64 ((rd_T38 t192 x23_2).f1.f2)] 38 (0, 0)) (by (with_reducible repeat (first | refine blk_drewN ?_ _ | refine blk_drew ?_ | refine blk_alloc ?_ _)); exact BK196.out) hg (fun e_ => NB196_191.out (Option.some.inj e_))); have n4_ := Aside0.mk (pw_below_grown (by repeat (first | (with_reducible first | exact HB.out | apply below_alloc | apply pw_below_drewN | apply below_drew1 | refine below_set ?_ GE186.out | refine below_set ?_ GE191.out | refine below_set ?_ GE196.out) | exact HB.out)) (some gb191) (below_size (by repeat (first | (with_reducible first | exact HB.out | apply below_alloc | apply pw_below_drewN | apply below_drew1 | refine below_set ?_ GE186.out | refine below_set ?_ GE191.out | refine below_set ?_ GE196.out) | exact HB.out))) hg (fun k_ e_ => (Option.some.inj e_) ▸ GE191.out)); clear HO_21; clear BK186; clear BK191; clear BK196; clear HB; have HO_21 := n0_; have BK186 := n1_; have BK191 := n2_; have BK196 := n3_; have HB := n4_; clear n0_ n1_ n2_ n3_ n4_; clear hg hbx))
                              go_roundg k2
                              case measure => have := HJ1.out; have := HK2.out; omega
                              case rel => exact ⟨(wrap64 (x23_2 + 1)), (mput x192000_2 ((rd_T38 t192 x23_2).f0) true), (by first | rfl | (simp; done) | (simp [*]; done)), H', ⟨by have := HJ1.out; have := HK2.out; omega⟩, ⟨by (with_reducible repeat (first | apply Kd.R_alloc | apply Kd.R_drewN | apply Kd.R_drew)); exact Kd.R_mono HO_21.out (fun _ hk => hk.1)⟩, ⟨by (with_reducible repeat (first | refine blk_drewN ?_ _ | refine blk_drew ?_ | refine blk_alloc ?_ _)); exact BK186.out⟩, ⟨by (with_reducible repeat (first | refine blk_drewN ?_ _ | refine blk_drew ?_ | refine blk_alloc ?_ _)); exact BK191.out⟩, ⟨by repeat (first | (with_reducible first | exact HB.out | apply below_alloc | apply pw_below_drewN | apply below_drew1 | refine below_set ?_ GE186.out | refine below_set ?_ GE191.out | refine below_set ?_ GE196.out) | exact HB.out)⟩⟩
                          · replace c36 := Bool.eq_false_iff.mpr c36
                            subst c36
                            rw [if_neg (show ¬ (false = true) by decide)] at H
                            obtain rfl := Option.some.inj H
                            (try have hnb46 := NB196_186.out)
                            (try have hnc46 := NB186_196.out)
                            (try have hnb47 := NB196_191.out)
                            (try have hnc47 := NB191_196.out)
                            have hcz48_0 : w27.cell? ⟨gb196, 0, none⟩ = some (.int .i64 ((rd_T38 t192 x23_2).f0)) := (blk_cell BK196.out 0).trans rfl
                            have hcz48_1 : w27.cell? ⟨gb196, 1, none⟩ = some (.int .i64 ((rd_T38 t192 x23_2).f1.f0)) := (blk_cell BK196.out 1).trans rfl
                            have hcz48_2 : w27.cell? ⟨gb196, 2, none⟩ = some (.int .i64 ((rd_T38 t192 x23_2).f1.f1)) := (blk_cell BK196.out 2).trans rfl
                            have hcz48_3 : w27.cell? ⟨gb196, 3, none⟩ = some (.int .i64 ((rd_T38 t192 x23_2).f1.f2)) := (blk_cell BK196.out 3).trans rfl
                            have hfz48_0 := blk_frozen BK196.out 0
                            have hfz48_1 := blk_frozen BK196.out 1
                            have hfz48_2 := blk_frozen BK196.out 2
                            have hfz48_3 := blk_frozen BK196.out 3
                            go_wp2_with (first | (go_at_call 15; (with_reducible refine (impl_isNeed.calls ((rd_T38 t192 x23_2).f1.f2) true _ A33.out).mono ?_); rintro e w' ⟨rfl, ⟨nd, rfl⟩⟩) | (go_at_call 12; (with_reducible refine (impl_within.calls ((rd_T38 t192 x23_2).f0) 0 1000000000000 false _ A35.out).mono ?_); rintro e w' ⟨rfl, ⟨nd, rfl⟩⟩))
                            go_ret
                            exact ⟨by first | rfl | (simp [errW_none, errW_some] <;> rfl) | (simp [*, errW_none, errW_some] <;> rfl), by repeat (first | (with_reducible first | exact HB.out | apply below_alloc | apply pw_below_drewN | apply below_drew1 | refine below_set ?_ GE186.out | refine below_set ?_ GE191.out | refine below_set ?_ GE196.out) | exact HB.out)⟩
                        · replace c34 := Bool.eq_false_iff.mpr c34
                          subst c34
                          rw [if_neg (show ¬ (false = true) by decide)] at H
                          obtain rfl := Option.some.inj H
                          (try have hnb49 := NB196_186.out)
                          (try have hnc49 := NB186_196.out)
                          (try have hnb50 := NB196_191.out)
                          (try have hnc50 := NB191_196.out)
                          have hcz51_0 : w27.cell? ⟨gb196, 0, none⟩ = some (.int .i64 ((rd_T38 t192 x23_2).f0)) := (blk_cell BK196.out 0).trans rfl
                          have hcz51_1 : w27.cell? ⟨gb196, 1, none⟩ = some (.int .i64 ((rd_T38 t192 x23_2).f1.f0)) := (blk_cell BK196.out 1).trans rfl
                          have hcz51_2 : w27.cell? ⟨gb196, 2, none⟩ = some (.int .i64 ((rd_T38 t192 x23_2).f1.f1)) := (blk_cell BK196.out 2).trans rfl
                          have hcz51_3 : w27.cell? ⟨gb196, 3, none⟩ = some (.int .i64 ((rd_T38 t192 x23_2).f1.f2)) := (blk_cell BK196.out 3).trans rfl
                          have hfz51_0 := blk_frozen BK196.out 0
                          have hfz51_1 := blk_frozen BK196.out 1
                          have hfz51_2 := blk_frozen BK196.out 2
                          have hfz51_3 := blk_frozen BK196.out 3
                          go_wp2_with (first | (go_at_call 15; (with_reducible refine (impl_isNeed.calls ((rd_T38 t192 x23_2).f1.f2) false _ A33.out).mono ?_); rintro e w' ⟨rfl, ⟨nd, rfl⟩⟩))
                          go_ret
                          exact ⟨by first | rfl | (simp [errW_none, errW_some] <;> rfl) | (simp [*, errW_none, errW_some] <;> rfl), by repeat (first | (with_reducible first | exact HB.out | apply below_alloc | apply pw_below_drewN | apply below_drew1 | refine below_set ?_ GE186.out | refine below_set ?_ GE191.out | refine below_set ?_ GE196.out) | exact HB.out)⟩
                      · rw [if_neg c32] at H
                        have c32b0 : (((rd_T38 t192 x23_2).f1.f1) == 0) = false := beq_eq_false_iff_ne.mpr c32
                        have c32b1 : (((rd_T38 t192 x23_2).f1.f1) != 0) = true := bne_iff_ne.mpr c32
                        obtain rfl := Option.some.inj H
                        (try have hnb52 := NB196_186.out)
                        (try have hnc52 := NB186_196.out)
                        (try have hnb53 := NB196_191.out)
                        (try have hnc53 := NB191_196.out)
                        have hcz54_0 : w27.cell? ⟨gb196, 0, none⟩ = some (.int .i64 ((rd_T38 t192 x23_2).f0)) := (blk_cell BK196.out 0).trans rfl
                        have hcz54_1 : w27.cell? ⟨gb196, 1, none⟩ = some (.int .i64 ((rd_T38 t192 x23_2).f1.f0)) := (blk_cell BK196.out 1).trans rfl
                        have hcz54_2 : w27.cell? ⟨gb196, 2, none⟩ = some (.int .i64 ((rd_T38 t192 x23_2).f1.f1)) := (blk_cell BK196.out 2).trans rfl
                        have hcz54_3 : w27.cell? ⟨gb196, 3, none⟩ = some (.int .i64 ((rd_T38 t192 x23_2).f1.f2)) := (blk_cell BK196.out 3).trans rfl
                        have hfz54_0 := blk_frozen BK196.out 0
                        have hfz54_1 := blk_frozen BK196.out 1
                        have hfz54_2 := blk_frozen BK196.out 2
                        have hfz54_3 := blk_frozen BK196.out 3
                        go_wp2
                        go_ret
                        exact ⟨by first | rfl | (simp [errW_none, errW_some] <;> rfl) | (simp [*, errW_none, errW_some] <;> rfl), by repeat (first | (with_reducible first | exact HB.out | apply below_alloc | apply pw_below_drewN | apply below_drew1 | refine below_set ?_ GE186.out | refine below_set ?_ GE191.out | refine below_set ?_ GE196.out) | exact HB.out)⟩
                    · rw [if_neg c31] at H
                      have c31b0 : (((rd_T38 t192 x23_2).f1.f0) == 0) = false := beq_eq_false_iff_ne.mpr c31
                      have c31b1 : (((rd_T38 t192 x23_2).f1.f0) != 0) = true := bne_iff_ne.mpr c31
                      obtain rfl := Option.some.inj H
                      (try have hnb55 := NB196_186.out)
                      (try have hnc55 := NB186_196.out)
                      (try have hnb56 := NB196_191.out)
                      (try have hnc56 := NB191_196.out)
                      have hcz57_0 : w27.cell? ⟨gb196, 0, none⟩ = some (.int .i64 ((rd_T38 t192 x23_2).f0)) := (blk_cell BK196.out 0).trans rfl
                      have hcz57_1 : w27.cell? ⟨gb196, 1, none⟩ = some (.int .i64 ((rd_T38 t192 x23_2).f1.f0)) := (blk_cell BK196.out 1).trans rfl
                      have hcz57_2 : w27.cell? ⟨gb196, 2, none⟩ = some (.int .i64 ((rd_T38 t192 x23_2).f1.f1)) := (blk_cell BK196.out 2).trans rfl
                      have hcz57_3 : w27.cell? ⟨gb196, 3, none⟩ = some (.int .i64 ((rd_T38 t192 x23_2).f1.f2)) := (blk_cell BK196.out 3).trans rfl
                      have hfz57_0 := blk_frozen BK196.out 0
                      have hfz57_1 := blk_frozen BK196.out 1
                      have hfz57_2 := blk_frozen BK196.out 2
                      have hfz57_3 := blk_frozen BK196.out 3
                      go_wp2
                      go_ret
                      exact ⟨by first | rfl | (simp [errW_none, errW_some] <;> rfl) | (simp [*, errW_none, errW_some] <;> rfl), by repeat (first | (with_reducible first | exact HB.out | apply below_alloc | apply pw_below_drewN | apply below_drew1 | refine below_set ?_ GE186.out | refine below_set ?_ GE191.out | refine below_set ?_ GE196.out) | exact HB.out)⟩
                  · rw [if_neg c30] at H
                    have c30b0 : decide ((wrap64 ((l0_1.length : Int) + (l0_2.length : Int))) ≤ x23_2) = false := decide_eq_false c30
                    clear c30
                    (first | rw [c30b0] | (simp only [i64_w, i32_w]; rw [c30b0]) | (have cz_ := c30b0; simp only [bne, gt_iff_lt, Int.natCast_pos] at cz_; first | rw [cz_] | (simp only [i64_w, i32_w]; rw [cz_])) | skip)
                    by_cases c58 : x23_2 ≥ (l0_1.length : Int)
                    · rw [if_pos c58] at H
                      have c58b0 : decide ((l0_1.length : Int) ≤ x23_2) = true := decide_eq_true c58
                      clear c58
                      by_cases c59 : ((rd_T38 t192 x23_2).f1.f0) = 0
                      · rw [if_pos c59] at H
                        have c59b0 : (((rd_T38 t192 x23_2).f1.f0) == 0) = true := beq_iff_eq.mpr c59
                        have c59b1 : (((rd_T38 t192 x23_2).f1.f0) != 0) = false := bne_eq_false_iff_eq.mpr c59
                        clear c59
                        obtain ⟨t200, A600, H⟩ := Option.bind_eq_some_iff.mp H
                        (try dsimp only at H)
                        have A60 := Aside0.mk A600
                        clear A600
                        by_cases c61 : t200 = true
                        · subst c61
                          rw [if_pos rfl] at H
                          obtain ⟨t201, A620, H⟩ := Option.bind_eq_some_iff.mp H
                          (try dsimp only at H)
                          have A62 := Aside0.mk A620
                          clear A620
                          by_cases c63 : t201 = true
                          · subst c63
                            rw [if_pos rfl] at H
                            obtain ⟨t202, A640, H⟩ := Option.bind_eq_some_iff.mp H
                            (try dsimp only at H)
                            have A64 := Aside0.mk A640
                            clear A640
                            by_cases c65 : t202 = true
                            · subst c65
                              rw [if_pos rfl] at H
                              have HU66 := Aside0.mk H
                              clear H
                              (try have hnb67 := NB186_191.out)
                              (try have hnc67 := NB191_186.out)
                              (try have hnb68 := NB186_196.out)
                              (try have hnc68 := NB196_186.out)
                              have hcz69_0 : w27.cell? ⟨gb186, 0, none⟩ = some (.int .i64 a0_0) := (blk_cell BK186.out 0).trans rfl
                              have hcz69_1 : w27.cell? ⟨gb186, 1, none⟩ = some (.slice A0_1 l0_1.length c0_1) := (blk_cell BK186.out 1).trans rfl
                              have hcz69_2 : w27.cell? ⟨gb186, 2, none⟩ = some (.slice A0_2 l0_2.length c0_2) := (blk_cell BK186.out 2).trans rfl
                              have hcz69_3 : w27.cell? ⟨gb186, 3, none⟩ = some (.slice A0_3 l0_3.length c0_3) := (blk_cell BK186.out 3).trans rfl
                              have hfz69_0 := blk_frozen BK186.out 0
                              have hfz69_1 := blk_frozen BK186.out 1
                              have hfz69_2 := blk_frozen BK186.out 2
                              have hfz69_3 := blk_frozen BK186.out 3
                              (try have hnb70 := NB196_191.out)
                              (try have hnc70 := NB191_196.out)
                              have hcz71_0 : w27.cell? ⟨gb196, 0, none⟩ = some (.int .i64 ((rd_T38 t192 x23_2).f0)) := (blk_cell BK196.out 0).trans rfl
                              have hcz71_1 : w27.cell? ⟨gb196, 1, none⟩ = some (.int .i64 ((rd_T38 t192 x23_2).f1.f0)) := (blk_cell BK196.out 1).trans rfl
                              have hcz71_2 : w27.cell? ⟨gb196, 2, none⟩ = some (.int .i64 ((rd_T38 t192 x23_2).f1.f1)) := (blk_cell BK196.out 2).trans rfl
                              have hcz71_3 : w27.cell? ⟨gb196, 3, none⟩ = some (.int .i64 ((rd_T38 t192 x23_2).f1.f2)) := (blk_cell BK196.out 3).trans rfl
                              have hfz71_0 := blk_frozen BK196.out 0
                              have hfz71_1 := blk_frozen BK196.out 1
                              have hfz71_2 := blk_frozen BK196.out 2
                              have hfz71_3 := blk_frozen BK196.out 3
                              go_upto_if 92 with (first | (go_at_call 15; (with_reducible refine (impl_isNeed.calls ((rd_T38 t192 x23_2).f1.f1) true _ A60.out).mono ?_); rintro e w' ⟨rfl, ⟨nd, rfl⟩⟩) | (go_at_call 15; (with_reducible refine (impl_isNeed.calls ((rd_T38 t192 x23_2).f1.f2) true _ A62.out).mono ?_); rintro e w' ⟨rfl, ⟨nd, rfl⟩⟩) | (go_at_call 12; (with_reducible refine (impl_within.calls ((rd_T38 t192 x23_2).f0) 0 1000000000000 true _ A64.out).mono ?_); rintro e w' ⟨rfl, ⟨nd, rfl⟩⟩) | ((with_reducible refine gate_dst (N := 91) rfl ?_); (try (refine gate_guard (by rfl) ?_; dsimp only)); refine mlook_event (enc := Value.bool) (M := x192000_2) (d := false) (g := gb191) (x := ((rd_T38 t192 x23_2).f0)) (t := 42) (kt := 3) (et := 4) (m := .tmp 88) (k := .tmp 90) ?hg (N := 91) ?hd ?ho ?hm ?hk Try.underlying42 Try.underlying3 (by kernel_rfl) ?hb ?_; (case hd => rfl); (case hg => rfl); (case ho => rfl); (case hm => first | rfl | (go_simp; done)); (case hk => first | rfl | (go_simp; done)); (case hb => ((with_reducible repeat (first | refine blk_drewN ?_ _ | refine blk_drew ?_ | refine blk_alloc ?_ _)); exact BK191.out))))
                              have H := HU66.out
                              clear HU66
                              by_cases c72 : mlook false x192000_2 ((rd_T38 t192 x23_2).f0) = true
                              · rw [if_pos c72] at H
                                have c72b0 : mlook false x192000_2 ((rd_T38 t192 x23_2).f0) = true := c72
                                clear c72
                                (first | rw [c72b0] | (simp only [i64_w, i32_w]; rw [c72b0]) | (have cz_ := c72b0; simp only [bne, gt_iff_lt, Int.natCast_pos] at cz_; first | rw [cz_] | (simp only [i64_w, i32_w]; rw [cz_])) | skip)
                                obtain rfl := Option.some.inj H
                                go_wp2
                                go_ret
                                exact ⟨by first | rfl | (simp [errW_none, errW_some] <;> rfl) | (simp [*, errW_none, errW_some] <;> rfl), by repeat (first | (with_reducible first | exact HB.out | apply below_alloc | apply pw_below_drewN | apply below_drew1 | refine below_set ?_ GE186.out | refine below_set ?_ GE191.out | refine below_set ?_ GE196.out) | exact HB.out)⟩
                              · rw [if_neg c72] at H
                                have c72b0 : mlook false x192000_2 ((rd_T38 t192 x23_2).f0) = false := by simpa using c72
                                clear c72
                                (first | rw [c72b0] | (simp only [i64_w, i32_w]; rw [c72b0]) | (have cz_ := c72b0; simp only [bne, gt_iff_lt, Int.natCast_pos] at cz_; first | rw [cz_] | (simp only [i64_w, i32_w]; rw [cz_])) | skip)
                                have H' := Aside0.mk H
                                clear H
                                (try have hnb73 := NB196_186.out)
                                (try have hnc73 := NB186_196.out)
                                (try have hnb74 := NB196_191.out)
                                (try have hnc74 := NB191_196.out)
                                have hcz75_0 : w27.cell? ⟨gb196, 0, none⟩ = some (.int .i64 ((rd_T38 t192 x23_2).f0)) := (blk_cell BK196.out 0).trans rfl
                                have hcz75_1 : w27.cell? ⟨gb196, 1, none⟩ = some (.int .i64 ((rd_T38 t192 x23_2).f1.f0)) := (blk_cell BK196.out 1).trans rfl
                                have hcz75_2 : w27.cell? ⟨gb196, 2, none⟩ = some (.int .i64 ((rd_T38 t192 x23_2).f1.f1)) := (blk_cell BK196.out 2).trans rfl
                                have hcz75_3 : w27.cell? ⟨gb196, 3, none⟩ = some (.int .i64 ((rd_T38 t192 x23_2).f1.f2)) := (blk_cell BK196.out 3).trans rfl
                                have hfz75_0 := blk_frozen BK196.out 0
                                have hfz75_1 := blk_frozen BK196.out 1
                                have hfz75_2 := blk_frozen BK196.out 2
                                have hfz75_3 := blk_frozen BK196.out 3
                                go_wp2_with (first | ((with_reducible refine gate_map (t := 42) rfl ?_); refine mput_event (enc := Value.bool) (M := x192000_2) (g := gb191) (x := ((rd_T38 t192 x23_2).f0)) (y := true) (t := 42) (kt := 3) (et := 4) (m := .tmp 93) (k := .tmp 95) (v := .const (.bool true)) ?hg ?hd ?ho ?hm ?hk ?hv Try.underlying42 Try.underlying3 ?hb ?_; (case hd => rfl); (case hg => rfl); (case ho => rfl); (case hm => first | rfl | (go_simp; done)); (case hk => first | rfl | (go_simp; done)); (case hv => first | rfl | (go_simp; done)); (case hb => (with_reducible repeat (first | refine blk_drewN ?_ _ | refine blk_drew ?_ | refine blk_alloc ?_ _)); exact BK191.out); intro w76 hbx hg; have n0_ := Aside0.mk (Kd.R_grown (ok := (fun k_ => (k_ ≠ gb191 ∧ k_ ≠ gb196))) (by (with_reducible repeat (first | apply Kd.R_alloc | apply Kd.R_drewN | apply Kd.R_drew)); exact HO_21.out) hg (fun k_ hk e_ => hk.1 (Option.some.inj e_))); have n1_ := Aside0.mk (blk_grown (g := gb186) (o := .cells #[.int .i64 a0_0, .slice A0_1 l0_1.length c0_1, .slice A0_2 l0_2.length c0_2, .slice A0_3 l0_3.length c0_3] 29 (0, 0)) (by (with_reducible repeat (first | refine blk_drewN ?_ _ | refine blk_drew ?_ | refine blk_alloc ?_ _)); exact BK186.out) hg (fun e_ => NB186_191.out (Option.some.inj e_))); have n2_ := Aside0.mk (hbx); have n3_ := Aside0.mk (blk_grown (g := gb196) (o := .cells #[.int .i64 ((rd_T38 t192 x23_2).f0), .int .i64 ((rd_T38 t192 x23_2).f1.f0), .int .i64 ((rd_T38 t192 x23_2).f1.f1), .int .i64 ((rd_T38 t192 x23_2).f1.f2)] 38 (0, 0)) (by (with_reducible repeat (first | refine blk_drewN ?_ _ | refine blk_drew ?_ | refine blk_alloc ?_ _)); exact BK196.out) hg (fun e_ => NB196_191.out (Option.some.inj e_))); have n4_ := Aside0.mk (pw_below_grown (by repeat (first | (with_reducible first | exact HB.out | apply below_alloc | apply pw_below_drewN | apply below_drew1 | refine below_set ?_ GE186.out | refine below_set ?_ GE191.out | refine below_set ?_ GE196.out) | exact HB.out)) (some gb191) (below_size (by repeat (first | (with_reducible first | exact HB.out | apply below_alloc | apply pw_below_drewN | apply below_drew1 | refine below_set ?_ GE186.out | refine below_set ?_ GE191.out | refine below_set ?_ GE196.out) | exact HB.out))) hg (fun k_ e_ => (Option.some.inj e_) ▸ GE191.out)); clear HO_21; clear BK186; clear BK191; clear BK196; clear HB; have HO_21 := n0_; have BK186 := n1_; have BK191 := n2_; have BK196 := n3_; have HB := n4_; clear n0_ n1_ n2_ n3_ n4_; clear hg hbx))
                                go_roundg k2
                                case measure => have := HJ1.out; have := HK2.out; omega
                                case rel => exact ⟨(wrap64 (x23_2 + 1)), (mput x192000_2 ((rd_T38 t192 x23_2).f0) true), (by first | rfl | (simp; done) | (simp [*]; done)), H', ⟨by have := HJ1.out; have := HK2.out; omega⟩, ⟨by (with_reducible repeat (first | apply Kd.R_alloc | apply Kd.R_drewN | apply Kd.R_drew)); exact Kd.R_mono HO_21.out (fun _ hk => hk.1)⟩, ⟨by (with_reducible repeat (first | refine blk_drewN ?_ _ | refine blk_drew ?_ | refine blk_alloc ?_ _)); exact BK186.out⟩, ⟨by (with_reducible repeat (first | refine blk_drewN ?_ _ | refine blk_drew ?_ | refine blk_alloc ?_ _)); exact BK191.out⟩, ⟨by repeat (first | (with_reducible first | exact HB.out | apply below_alloc | apply pw_below_drewN | apply below_drew1 | refine below_set ?_ GE186.out | refine below_set ?_ GE191.out | refine below_set ?_ GE196.out) | exact HB.out)⟩⟩
                            · replace c65 := Bool.eq_false_iff.mpr c65
                              subst c65
                              rw [if_neg (show ¬ (false = true) by decide)] at H
                              obtain rfl := Option.some.inj H
                              (try have hnb77 := NB186_191.out)
                              (try have hnc77 := NB191_186.out)
                              (try have hnb78 := NB186_196.out)
                              (try have hnc78 := NB196_186.out)
                              have hcz79_0 : w27.cell? ⟨gb186, 0, none⟩ = some (.int .i64 a0_0) := (blk_cell BK186.out 0).trans rfl
                              have hcz79_1 : w27.cell? ⟨gb186, 1, none⟩ = some (.slice A0_1 l0_1.length c0_1) := (blk_cell BK186.out 1).trans rfl
                              have hcz79_2 : w27.cell? ⟨gb186, 2, none⟩ = some (.slice A0_2 l0_2.length c0_2) := (blk_cell BK186.out 2).trans rfl
                              have hcz79_3 : w27.cell? ⟨gb186, 3, none⟩ = some (.slice A0_3 l0_3.length c0_3) := (blk_cell BK186.out 3).trans rfl
                              have hfz79_0 := blk_frozen BK186.out 0
                              have hfz79_1 := blk_frozen BK186.out 1
                              have hfz79_2 := blk_frozen BK186.out 2
                              have hfz79_3 := blk_frozen BK186.out 3
                              (try have hnb80 := NB196_191.out)
                              (try have hnc80 := NB191_196.out)
                              have hcz81_0 : w27.cell? ⟨gb196, 0, none⟩ = some (.int .i64 ((rd_T38 t192 x23_2).f0)) := (blk_cell BK196.out 0).trans rfl
                              have hcz81_1 : w27.cell? ⟨gb196, 1, none⟩ = some (.int .i64 ((rd_T38 t192 x23_2).f1.f0)) := (blk_cell BK196.out 1).trans rfl
                              have hcz81_2 : w27.cell? ⟨gb196, 2, none⟩ = some (.int .i64 ((rd_T38 t192 x23_2).f1.f1)) := (blk_cell BK196.out 2).trans rfl
                              have hcz81_3 : w27.cell? ⟨gb196, 3, none⟩ = some (.int .i64 ((rd_T38 t192 x23_2).f1.f2)) := (blk_cell BK196.out 3).trans rfl
                              have hfz81_0 := blk_frozen BK196.out 0
                              have hfz81_1 := blk_frozen BK196.out 1
                              have hfz81_2 := blk_frozen BK196.out 2
                              have hfz81_3 := blk_frozen BK196.out 3
                              go_wp2_with (first | (go_at_call 15; (with_reducible refine (impl_isNeed.calls ((rd_T38 t192 x23_2).f1.f1) true _ A60.out).mono ?_); rintro e w' ⟨rfl, ⟨nd, rfl⟩⟩) | (go_at_call 15; (with_reducible refine (impl_isNeed.calls ((rd_T38 t192 x23_2).f1.f2) true _ A62.out).mono ?_); rintro e w' ⟨rfl, ⟨nd, rfl⟩⟩) | (go_at_call 12; (with_reducible refine (impl_within.calls ((rd_T38 t192 x23_2).f0) 0 1000000000000 false _ A64.out).mono ?_); rintro e w' ⟨rfl, ⟨nd, rfl⟩⟩))
                              go_ret
                              exact ⟨by first | rfl | (simp [errW_none, errW_some] <;> rfl) | (simp [*, errW_none, errW_some] <;> rfl), by repeat (first | (with_reducible first | exact HB.out | apply below_alloc | apply pw_below_drewN | apply below_drew1 | refine below_set ?_ GE186.out | refine below_set ?_ GE191.out | refine below_set ?_ GE196.out) | exact HB.out)⟩
                          · replace c63 := Bool.eq_false_iff.mpr c63
                            subst c63
                            rw [if_neg (show ¬ (false = true) by decide)] at H
                            obtain rfl := Option.some.inj H
                            (try have hnb82 := NB186_191.out)
                            (try have hnc82 := NB191_186.out)
                            (try have hnb83 := NB186_196.out)
                            (try have hnc83 := NB196_186.out)
                            have hcz84_0 : w27.cell? ⟨gb186, 0, none⟩ = some (.int .i64 a0_0) := (blk_cell BK186.out 0).trans rfl
                            have hcz84_1 : w27.cell? ⟨gb186, 1, none⟩ = some (.slice A0_1 l0_1.length c0_1) := (blk_cell BK186.out 1).trans rfl
                            have hcz84_2 : w27.cell? ⟨gb186, 2, none⟩ = some (.slice A0_2 l0_2.length c0_2) := (blk_cell BK186.out 2).trans rfl
                            have hcz84_3 : w27.cell? ⟨gb186, 3, none⟩ = some (.slice A0_3 l0_3.length c0_3) := (blk_cell BK186.out 3).trans rfl
                            have hfz84_0 := blk_frozen BK186.out 0
                            have hfz84_1 := blk_frozen BK186.out 1
                            have hfz84_2 := blk_frozen BK186.out 2
                            have hfz84_3 := blk_frozen BK186.out 3
                            (try have hnb85 := NB196_191.out)
                            (try have hnc85 := NB191_196.out)
                            have hcz86_0 : w27.cell? ⟨gb196, 0, none⟩ = some (.int .i64 ((rd_T38 t192 x23_2).f0)) := (blk_cell BK196.out 0).trans rfl
                            have hcz86_1 : w27.cell? ⟨gb196, 1, none⟩ = some (.int .i64 ((rd_T38 t192 x23_2).f1.f0)) := (blk_cell BK196.out 1).trans rfl
                            have hcz86_2 : w27.cell? ⟨gb196, 2, none⟩ = some (.int .i64 ((rd_T38 t192 x23_2).f1.f1)) := (blk_cell BK196.out 2).trans rfl
                            have hcz86_3 : w27.cell? ⟨gb196, 3, none⟩ = some (.int .i64 ((rd_T38 t192 x23_2).f1.f2)) := (blk_cell BK196.out 3).trans rfl
                            have hfz86_0 := blk_frozen BK196.out 0
                            have hfz86_1 := blk_frozen BK196.out 1
                            have hfz86_2 := blk_frozen BK196.out 2
                            have hfz86_3 := blk_frozen BK196.out 3
                            go_wp2_with (first | (go_at_call 15; (with_reducible refine (impl_isNeed.calls ((rd_T38 t192 x23_2).f1.f1) true _ A60.out).mono ?_); rintro e w' ⟨rfl, ⟨nd, rfl⟩⟩) | (go_at_call 15; (with_reducible refine (impl_isNeed.calls ((rd_T38 t192 x23_2).f1.f2) false _ A62.out).mono ?_); rintro e w' ⟨rfl, ⟨nd, rfl⟩⟩))
                            go_ret
                            exact ⟨by first | rfl | (simp [errW_none, errW_some] <;> rfl) | (simp [*, errW_none, errW_some] <;> rfl), by repeat (first | (with_reducible first | exact HB.out | apply below_alloc | apply pw_below_drewN | apply below_drew1 | refine below_set ?_ GE186.out | refine below_set ?_ GE191.out | refine below_set ?_ GE196.out) | exact HB.out)⟩
                        · replace c61 := Bool.eq_false_iff.mpr c61
                          subst c61
                          rw [if_neg (show ¬ (false = true) by decide)] at H
                          obtain rfl := Option.some.inj H
                          (try have hnb87 := NB186_191.out)
                          (try have hnc87 := NB191_186.out)
                          (try have hnb88 := NB186_196.out)
                          (try have hnc88 := NB196_186.out)
                          have hcz89_0 : w27.cell? ⟨gb186, 0, none⟩ = some (.int .i64 a0_0) := (blk_cell BK186.out 0).trans rfl
                          have hcz89_1 : w27.cell? ⟨gb186, 1, none⟩ = some (.slice A0_1 l0_1.length c0_1) := (blk_cell BK186.out 1).trans rfl
                          have hcz89_2 : w27.cell? ⟨gb186, 2, none⟩ = some (.slice A0_2 l0_2.length c0_2) := (blk_cell BK186.out 2).trans rfl
                          have hcz89_3 : w27.cell? ⟨gb186, 3, none⟩ = some (.slice A0_3 l0_3.length c0_3) := (blk_cell BK186.out 3).trans rfl
                          have hfz89_0 := blk_frozen BK186.out 0
                          have hfz89_1 := blk_frozen BK186.out 1
                          have hfz89_2 := blk_frozen BK186.out 2
                          have hfz89_3 := blk_frozen BK186.out 3
                          (try have hnb90 := NB196_191.out)
                          (try have hnc90 := NB191_196.out)
                          have hcz91_0 : w27.cell? ⟨gb196, 0, none⟩ = some (.int .i64 ((rd_T38 t192 x23_2).f0)) := (blk_cell BK196.out 0).trans rfl
                          have hcz91_1 : w27.cell? ⟨gb196, 1, none⟩ = some (.int .i64 ((rd_T38 t192 x23_2).f1.f0)) := (blk_cell BK196.out 1).trans rfl
                          have hcz91_2 : w27.cell? ⟨gb196, 2, none⟩ = some (.int .i64 ((rd_T38 t192 x23_2).f1.f1)) := (blk_cell BK196.out 2).trans rfl
                          have hcz91_3 : w27.cell? ⟨gb196, 3, none⟩ = some (.int .i64 ((rd_T38 t192 x23_2).f1.f2)) := (blk_cell BK196.out 3).trans rfl
                          have hfz91_0 := blk_frozen BK196.out 0
                          have hfz91_1 := blk_frozen BK196.out 1
                          have hfz91_2 := blk_frozen BK196.out 2
                          have hfz91_3 := blk_frozen BK196.out 3
                          go_wp2_with (first | (go_at_call 15; (with_reducible refine (impl_isNeed.calls ((rd_T38 t192 x23_2).f1.f1) false _ A60.out).mono ?_); rintro e w' ⟨rfl, ⟨nd, rfl⟩⟩))
                          go_ret
                          exact ⟨by first | rfl | (simp [errW_none, errW_some] <;> rfl) | (simp [*, errW_none, errW_some] <;> rfl), by repeat (first | (with_reducible first | exact HB.out | apply below_alloc | apply pw_below_drewN | apply below_drew1 | refine below_set ?_ GE186.out | refine below_set ?_ GE191.out | refine below_set ?_ GE196.out) | exact HB.out)⟩
                      · rw [if_neg c59] at H
                        have c59b0 : (((rd_T38 t192 x23_2).f1.f0) == 0) = false := beq_eq_false_iff_ne.mpr c59
                        have c59b1 : (((rd_T38 t192 x23_2).f1.f0) != 0) = true := bne_iff_ne.mpr c59
                        obtain rfl := Option.some.inj H
                        (try have hnb92 := NB186_191.out)
                        (try have hnc92 := NB191_186.out)
                        (try have hnb93 := NB186_196.out)
                        (try have hnc93 := NB196_186.out)
                        have hcz94_0 : w27.cell? ⟨gb186, 0, none⟩ = some (.int .i64 a0_0) := (blk_cell BK186.out 0).trans rfl
                        have hcz94_1 : w27.cell? ⟨gb186, 1, none⟩ = some (.slice A0_1 l0_1.length c0_1) := (blk_cell BK186.out 1).trans rfl
                        have hcz94_2 : w27.cell? ⟨gb186, 2, none⟩ = some (.slice A0_2 l0_2.length c0_2) := (blk_cell BK186.out 2).trans rfl
                        have hcz94_3 : w27.cell? ⟨gb186, 3, none⟩ = some (.slice A0_3 l0_3.length c0_3) := (blk_cell BK186.out 3).trans rfl
                        have hfz94_0 := blk_frozen BK186.out 0
                        have hfz94_1 := blk_frozen BK186.out 1
                        have hfz94_2 := blk_frozen BK186.out 2
                        have hfz94_3 := blk_frozen BK186.out 3
                        (try have hnb95 := NB196_191.out)
                        (try have hnc95 := NB191_196.out)
                        have hcz96_0 : w27.cell? ⟨gb196, 0, none⟩ = some (.int .i64 ((rd_T38 t192 x23_2).f0)) := (blk_cell BK196.out 0).trans rfl
                        have hcz96_1 : w27.cell? ⟨gb196, 1, none⟩ = some (.int .i64 ((rd_T38 t192 x23_2).f1.f0)) := (blk_cell BK196.out 1).trans rfl
                        have hcz96_2 : w27.cell? ⟨gb196, 2, none⟩ = some (.int .i64 ((rd_T38 t192 x23_2).f1.f1)) := (blk_cell BK196.out 2).trans rfl
                        have hcz96_3 : w27.cell? ⟨gb196, 3, none⟩ = some (.int .i64 ((rd_T38 t192 x23_2).f1.f2)) := (blk_cell BK196.out 3).trans rfl
                        have hfz96_0 := blk_frozen BK196.out 0
                        have hfz96_1 := blk_frozen BK196.out 1
                        have hfz96_2 := blk_frozen BK196.out 2
                        have hfz96_3 := blk_frozen BK196.out 3
                        go_wp2
                        go_ret
                        exact ⟨by first | rfl | (simp [errW_none, errW_some] <;> rfl) | (simp [*, errW_none, errW_some] <;> rfl), by repeat (first | (with_reducible first | exact HB.out | apply below_alloc | apply pw_below_drewN | apply below_drew1 | refine below_set ?_ GE186.out | refine below_set ?_ GE191.out | refine below_set ?_ GE196.out) | exact HB.out)⟩
                    · rw [if_neg c58] at H
                      have c58b0 : decide ((l0_1.length : Int) ≤ x23_2) = false := decide_eq_false c58
                      clear c58
                      by_cases c97 : t197 = true
                      · subst c97
                        rw [if_pos rfl] at H
                        obtain ⟨t203, A980, H⟩ := Option.bind_eq_some_iff.mp H
                        (try dsimp only at H)
                        have A98 := Aside0.mk A980
                        clear A980
                        by_cases c99 : t203 = true
                        · subst c99
                          rw [if_pos rfl] at H
                          have HU100 := Aside0.mk H
                          clear H
                          (try have hnb101 := NB186_191.out)
                          (try have hnc101 := NB191_186.out)
                          (try have hnb102 := NB186_196.out)
                          (try have hnc102 := NB196_186.out)
                          have hcz103_0 : w27.cell? ⟨gb186, 0, none⟩ = some (.int .i64 a0_0) := (blk_cell BK186.out 0).trans rfl
                          have hcz103_1 : w27.cell? ⟨gb186, 1, none⟩ = some (.slice A0_1 l0_1.length c0_1) := (blk_cell BK186.out 1).trans rfl
                          have hcz103_2 : w27.cell? ⟨gb186, 2, none⟩ = some (.slice A0_2 l0_2.length c0_2) := (blk_cell BK186.out 2).trans rfl
                          have hcz103_3 : w27.cell? ⟨gb186, 3, none⟩ = some (.slice A0_3 l0_3.length c0_3) := (blk_cell BK186.out 3).trans rfl
                          have hfz103_0 := blk_frozen BK186.out 0
                          have hfz103_1 := blk_frozen BK186.out 1
                          have hfz103_2 := blk_frozen BK186.out 2
                          have hfz103_3 := blk_frozen BK186.out 3
                          (try have hnb104 := NB196_191.out)
                          (try have hnc104 := NB191_196.out)
                          have hcz105_0 : w27.cell? ⟨gb196, 0, none⟩ = some (.int .i64 ((rd_T38 t192 x23_2).f0)) := (blk_cell BK196.out 0).trans rfl
                          have hcz105_1 : w27.cell? ⟨gb196, 1, none⟩ = some (.int .i64 ((rd_T38 t192 x23_2).f1.f0)) := (blk_cell BK196.out 1).trans rfl
                          have hcz105_2 : w27.cell? ⟨gb196, 2, none⟩ = some (.int .i64 ((rd_T38 t192 x23_2).f1.f1)) := (blk_cell BK196.out 2).trans rfl
                          have hcz105_3 : w27.cell? ⟨gb196, 3, none⟩ = some (.int .i64 ((rd_T38 t192 x23_2).f1.f2)) := (blk_cell BK196.out 3).trans rfl
                          have hfz105_0 := blk_frozen BK196.out 0
                          have hfz105_1 := blk_frozen BK196.out 1
                          have hfz105_2 := blk_frozen BK196.out 2
                          have hfz105_3 := blk_frozen BK196.out 3
                          go_upto_if 92 with (first | (go_at_call 12; (with_reducible refine (impl_within.calls ((rd_T38 t192 x23_2).f0) 0 1000000000000 true _ A98.out).mono ?_); rintro e w' ⟨rfl, ⟨nd, rfl⟩⟩) | ((with_reducible refine gate_dst (N := 91) rfl ?_); (try (refine gate_guard (by rfl) ?_; dsimp only)); refine mlook_event (enc := Value.bool) (M := x192000_2) (d := false) (g := gb191) (x := ((rd_T38 t192 x23_2).f0)) (t := 42) (kt := 3) (et := 4) (m := .tmp 88) (k := .tmp 90) ?hg (N := 91) ?hd ?ho ?hm ?hk Try.underlying42 Try.underlying3 (by kernel_rfl) ?hb ?_; (case hd => rfl); (case hg => rfl); (case ho => rfl); (case hm => first | rfl | (go_simp; done)); (case hk => first | rfl | (go_simp; done)); (case hb => ((with_reducible repeat (first | refine blk_drewN ?_ _ | refine blk_drew ?_ | refine blk_alloc ?_ _)); exact BK191.out))))
                          have H := HU100.out
                          clear HU100
                          by_cases c106 : mlook false x192000_2 ((rd_T38 t192 x23_2).f0) = true
                          · rw [if_pos c106] at H
                            have c106b0 : mlook false x192000_2 ((rd_T38 t192 x23_2).f0) = true := c106
                            clear c106
                            (first | rw [c106b0] | (simp only [i64_w, i32_w]; rw [c106b0]) | (have cz_ := c106b0; simp only [bne, gt_iff_lt, Int.natCast_pos] at cz_; first | rw [cz_] | (simp only [i64_w, i32_w]; rw [cz_])) | skip)
                            obtain rfl := Option.some.inj H
                            go_wp2
                            go_ret
                            exact ⟨by first | rfl | (simp [errW_none, errW_some] <;> rfl) | (simp [*, errW_none, errW_some] <;> rfl), by repeat (first | (with_reducible first | exact HB.out | apply below_alloc | apply pw_below_drewN | apply below_drew1 | refine below_set ?_ GE186.out | refine below_set ?_ GE191.out | refine below_set ?_ GE196.out) | exact HB.out)⟩
                          · rw [if_neg c106] at H
                            have c106b0 : mlook false x192000_2 ((rd_T38 t192 x23_2).f0) = false := by simpa using c106
                            clear c106
                            (first | rw [c106b0] | (simp only [i64_w, i32_w]; rw [c106b0]) | (have cz_ := c106b0; simp only [bne, gt_iff_lt, Int.natCast_pos] at cz_; first | rw [cz_] | (simp only [i64_w, i32_w]; rw [cz_])) | skip)
                            have H' := Aside0.mk H
                            clear H
                            (try have hnb107 := NB196_186.out)
                            (try have hnc107 := NB186_196.out)
                            (try have hnb108 := NB196_191.out)
                            (try have hnc108 := NB191_196.out)
                            have hcz109_0 : w27.cell? ⟨gb196, 0, none⟩ = some (.int .i64 ((rd_T38 t192 x23_2).f0)) := (blk_cell BK196.out 0).trans rfl
                            have hcz109_1 : w27.cell? ⟨gb196, 1, none⟩ = some (.int .i64 ((rd_T38 t192 x23_2).f1.f0)) := (blk_cell BK196.out 1).trans rfl
                            have hcz109_2 : w27.cell? ⟨gb196, 2, none⟩ = some (.int .i64 ((rd_T38 t192 x23_2).f1.f1)) := (blk_cell BK196.out 2).trans rfl
                            have hcz109_3 : w27.cell? ⟨gb196, 3, none⟩ = some (.int .i64 ((rd_T38 t192 x23_2).f1.f2)) := (blk_cell BK196.out 3).trans rfl
                            have hfz109_0 := blk_frozen BK196.out 0
                            have hfz109_1 := blk_frozen BK196.out 1
                            have hfz109_2 := blk_frozen BK196.out 2
                            have hfz109_3 := blk_frozen BK196.out 3
                            go_wp2_with (first | ((with_reducible refine gate_map (t := 42) rfl ?_); refine mput_event (enc := Value.bool) (M := x192000_2) (g := gb191) (x := ((rd_T38 t192 x23_2).f0)) (y := true) (t := 42) (kt := 3) (et := 4) (m := .tmp 93) (k := .tmp 95) (v := .const (.bool true)) ?hg ?hd ?ho ?hm ?hk ?hv Try.underlying42 Try.underlying3 ?hb ?_; (case hd => rfl); (case hg => rfl); (case ho => rfl); (case hm => first | rfl | (go_simp; done)); (case hk => first | rfl | (go_simp; done)); (case hv => first | rfl | (go_simp; done)); (case hb => (with_reducible repeat (first | refine blk_drewN ?_ _ | refine blk_drew ?_ | refine blk_alloc ?_ _)); exact BK191.out); intro w110 hbx hg; have n0_ := Aside0.mk (Kd.R_grown (ok := (fun k_ => (k_ ≠ gb191 ∧ k_ ≠ gb196))) (by (with_reducible repeat (first | apply Kd.R_alloc | apply Kd.R_drewN | apply Kd.R_drew)); exact HO_21.out) hg (fun k_ hk e_ => hk.1 (Option.some.inj e_))); have n1_ := Aside0.mk (blk_grown (g := gb186) (o := .cells #[.int .i64 a0_0, .slice A0_1 l0_1.length c0_1, .slice A0_2 l0_2.length c0_2, .slice A0_3 l0_3.length c0_3] 29 (0, 0)) (by (with_reducible repeat (first | refine blk_drewN ?_ _ | refine blk_drew ?_ | refine blk_alloc ?_ _)); exact BK186.out) hg (fun e_ => NB186_191.out (Option.some.inj e_))); have n2_ := Aside0.mk (hbx); have n3_ := Aside0.mk (blk_grown (g := gb196) (o := .cells #[.int .i64 ((rd_T38 t192 x23_2).f0), .int .i64 ((rd_T38 t192 x23_2).f1.f0), .int .i64 ((rd_T38 t192 x23_2).f1.f1), .int .i64 ((rd_T38 t192 x23_2).f1.f2)] 38 (0, 0)) (by (with_reducible repeat (first | refine blk_drewN ?_ _ | refine blk_drew ?_ | refine blk_alloc ?_ _)); exact BK196.out) hg (fun e_ => NB196_191.out (Option.some.inj e_))); have n4_ := Aside0.mk (pw_below_grown (by repeat (first | (with_reducible first | exact HB.out | apply below_alloc | apply pw_below_drewN | apply below_drew1 | refine below_set ?_ GE186.out | refine below_set ?_ GE191.out | refine below_set ?_ GE196.out) | exact HB.out)) (some gb191) (below_size (by repeat (first | (with_reducible first | exact HB.out | apply below_alloc | apply pw_below_drewN | apply below_drew1 | refine below_set ?_ GE186.out | refine below_set ?_ GE191.out | refine below_set ?_ GE196.out) | exact HB.out))) hg (fun k_ e_ => (Option.some.inj e_) ▸ GE191.out)); clear HO_21; clear BK186; clear BK191; clear BK196; clear HB; have HO_21 := n0_; have BK186 := n1_; have BK191 := n2_; have BK196 := n3_; have HB := n4_; clear n0_ n1_ n2_ n3_ n4_; clear hg hbx))
                            go_roundg k2
                            case measure => have := HJ1.out; have := HK2.out; omega
                            case rel => exact ⟨(wrap64 (x23_2 + 1)), (mput x192000_2 ((rd_T38 t192 x23_2).f0) true), (by first | rfl | (simp; done) | (simp [*]; done)), H', ⟨by have := HJ1.out; have := HK2.out; omega⟩, ⟨by (with_reducible repeat (first | apply Kd.R_alloc | apply Kd.R_drewN | apply Kd.R_drew)); exact Kd.R_mono HO_21.out (fun _ hk => hk.1)⟩, ⟨by (with_reducible repeat (first | refine blk_drewN ?_ _ | refine blk_drew ?_ | refine blk_alloc ?_ _)); exact BK186.out⟩, ⟨by (with_reducible repeat (first | refine blk_drewN ?_ _ | refine blk_drew ?_ | refine blk_alloc ?_ _)); exact BK191.out⟩, ⟨by repeat (first | (with_reducible first | exact HB.out | apply below_alloc | apply pw_below_drewN | apply below_drew1 | refine below_set ?_ GE186.out | refine below_set ?_ GE191.out | refine below_set ?_ GE196.out) | exact HB.out)⟩⟩
                        · replace c99 := Bool.eq_false_iff.mpr c99
                          subst c99
                          rw [if_neg (show ¬ (false = true) by decide)] at H
                          obtain rfl := Option.some.inj H
                          (try have hnb111 := NB186_191.out)
                          (try have hnc111 := NB191_186.out)
                          (try have hnb112 := NB186_196.out)
                          (try have hnc112 := NB196_186.out)
                          have hcz113_0 : w27.cell? ⟨gb186, 0, none⟩ = some (.int .i64 a0_0) := (blk_cell BK186.out 0).trans rfl
                          have hcz113_1 : w27.cell? ⟨gb186, 1, none⟩ = some (.slice A0_1 l0_1.length c0_1) := (blk_cell BK186.out 1).trans rfl
                          have hcz113_2 : w27.cell? ⟨gb186, 2, none⟩ = some (.slice A0_2 l0_2.length c0_2) := (blk_cell BK186.out 2).trans rfl
                          have hcz113_3 : w27.cell? ⟨gb186, 3, none⟩ = some (.slice A0_3 l0_3.length c0_3) := (blk_cell BK186.out 3).trans rfl
                          have hfz113_0 := blk_frozen BK186.out 0
                          have hfz113_1 := blk_frozen BK186.out 1
                          have hfz113_2 := blk_frozen BK186.out 2
                          have hfz113_3 := blk_frozen BK186.out 3
                          (try have hnb114 := NB196_191.out)
                          (try have hnc114 := NB191_196.out)
                          have hcz115_0 : w27.cell? ⟨gb196, 0, none⟩ = some (.int .i64 ((rd_T38 t192 x23_2).f0)) := (blk_cell BK196.out 0).trans rfl
                          have hcz115_1 : w27.cell? ⟨gb196, 1, none⟩ = some (.int .i64 ((rd_T38 t192 x23_2).f1.f0)) := (blk_cell BK196.out 1).trans rfl
                          have hcz115_2 : w27.cell? ⟨gb196, 2, none⟩ = some (.int .i64 ((rd_T38 t192 x23_2).f1.f1)) := (blk_cell BK196.out 2).trans rfl
                          have hcz115_3 : w27.cell? ⟨gb196, 3, none⟩ = some (.int .i64 ((rd_T38 t192 x23_2).f1.f2)) := (blk_cell BK196.out 3).trans rfl
                          have hfz115_0 := blk_frozen BK196.out 0
                          have hfz115_1 := blk_frozen BK196.out 1
                          have hfz115_2 := blk_frozen BK196.out 2
                          have hfz115_3 := blk_frozen BK196.out 3
                          go_wp2_with (first | (go_at_call 12; (with_reducible refine (impl_within.calls ((rd_T38 t192 x23_2).f0) 0 1000000000000 false _ A98.out).mono ?_); rintro e w' ⟨rfl, ⟨nd, rfl⟩⟩))
                          go_ret
                          exact ⟨by first | rfl | (simp [errW_none, errW_some] <;> rfl) | (simp [*, errW_none, errW_some] <;> rfl), by repeat (first | (with_reducible first | exact HB.out | apply below_alloc | apply pw_below_drewN | apply below_drew1 | refine below_set ?_ GE186.out | refine below_set ?_ GE191.out | refine below_set ?_ GE196.out) | exact HB.out)⟩
                      · replace c97 := Bool.eq_false_iff.mpr c97
                        subst c97
                        rw [if_neg (show ¬ (false = true) by decide)] at H
                        obtain rfl := Option.some.inj H
                        (try have hnb116 := NB186_191.out)
                        (try have hnc116 := NB191_186.out)
                        (try have hnb117 := NB186_196.out)
                        (try have hnc117 := NB196_186.out)
                        have hcz118_0 : w27.cell? ⟨gb186, 0, none⟩ = some (.int .i64 a0_0) := (blk_cell BK186.out 0).trans rfl
                        have hcz118_1 : w27.cell? ⟨gb186, 1, none⟩ = some (.slice A0_1 l0_1.length c0_1) := (blk_cell BK186.out 1).trans rfl
                        have hcz118_2 : w27.cell? ⟨gb186, 2, none⟩ = some (.slice A0_2 l0_2.length c0_2) := (blk_cell BK186.out 2).trans rfl
                        have hcz118_3 : w27.cell? ⟨gb186, 3, none⟩ = some (.slice A0_3 l0_3.length c0_3) := (blk_cell BK186.out 3).trans rfl
                        have hfz118_0 := blk_frozen BK186.out 0
                        have hfz118_1 := blk_frozen BK186.out 1
                        have hfz118_2 := blk_frozen BK186.out 2
                        have hfz118_3 := blk_frozen BK186.out 3
                        go_wp2
                        go_ret
                        exact ⟨by first | rfl | (simp [errW_none, errW_some] <;> rfl) | (simp [*, errW_none, errW_some] <;> rfl), by repeat (first | (with_reducible first | exact HB.out | apply below_alloc | apply pw_below_drewN | apply below_drew1 | refine below_set ?_ GE186.out | refine below_set ?_ GE191.out | refine below_set ?_ GE196.out) | exact HB.out)⟩
                · rw [if_neg c20] at H
                  exact absurd H (by simp)
              · rw [if_neg c19] at H
                exact absurd H (by simp)
            · rw [if_neg c18] at H
              have c18b0 : decide (x23_2 < (t192.length : Int)) = false := decide_eq_false c18
              clear c18
              obtain rfl := Option.some.inj H
              go_wp2
              go_ret
              exact ⟨by first | rfl | (simp [errW_none, errW_some] <;> rfl) | (simp [*, errW_none, errW_some] <;> rfl), by repeat (first | (with_reducible first | exact HB.out | apply below_alloc | apply pw_below_drewN | apply below_drew1 | refine below_set ?_ GE186.out | refine below_set ?_ GE191.out) | exact HB.out)⟩

/-! ### laws_eqVec: function 23 -/
def laws_eqVec.f (a0_0 : Int) (a0_1 : Int) (a0_2 : Int) (a1_0 : Int) (a1_1 : Int) (a1_2 : Int) : Option (Bool) := if a0_0 = a1_0 then (if a0_1 = a1_1 then (if a0_2 = a1_2 then (some true) else (some false)) else (some false)) else (some false)
set_option maxHeartbeats 8000000 in
set_option maxRecDepth 100000 in
theorem laws_eqVec.calls (a0_0 : Int) (a0_1 : Int) (a0_2 : Int) (a1_0 : Int) (a1_1 : Int) (a1_2 : Int) (r : Bool) (w : World) (h : laws_eqVec.f a0_0 a0_1 a0_2 a1_0 a1_1 a1_2 = some r) :
    Calls Try.prog 23 #[.agg #[.int .i64 a0_0, .int .i64 a0_1, .int .i64 a0_2], .agg #[.int .i64 a1_0, .int .i64 a1_1, .int .i64 a1_2]] w fun e w' => e = .returned (.bool r) ∧ Below w.heap.size w w' := by
  have hu36 := Try.underlying36
  have HB := Aside0.mk (Below.refl w.heap.size w)
  have H : (if a0_0 = a1_0 then (if a0_1 = a1_1 then (if a0_2 = a1_2 then (some true) else (some false)) else (some false)) else (some false)) = some r := h
  clear h
  have HU3 := Aside0.mk H
  clear H
  go_enter Try.func23, Try.ntmps23
  go_upto_if 9 with (first | ((with_reducible refine gate_dst (N := 2) rfl ?_); refine box_event ?hg (N := 2) ?hd (cs := #[.int .i64 a0_0, .int .i64 a0_1, .int .i64 a0_2]) (t := 36) ?hr ?_; (case hd => rfl); (case hg => rfl); (case hr => first | (go_simp; done) | (go_simp; rfl)); intro gb204 hg w4 hbox hb; have n0_ := Aside0.mk (below_step (by repeat (first | (with_reducible first | exact HB.out | apply below_alloc | apply pw_below_drewN | apply below_drew1) | exact HB.out)) hb); have n1_ := Aside0.mk (hbox); have n2_ := Aside0.mk ((by rw [hg]; exact (below_size (by repeat (first | (with_reducible first | exact HB.out | apply below_alloc | apply pw_below_drewN | apply below_drew1) | exact HB.out))) : w.heap.size ≤ gb204)); have n3_ := Aside0.mk ((by rw [hg]; exact (below_size (by repeat (first | (with_reducible first | exact HB.out | apply below_alloc | apply pw_below_drewN | apply below_drew1) | exact HB.out))) : w.heap.size ≤ gb204)); clear HB; have HB := n0_; have BK204 := n1_; have GW204 := n2_; have GE204 := n3_; clear n0_ n1_ n2_ n3_; clear hb hbox hg) | ((with_reducible refine gate_dst (N := 3) rfl ?_); refine box_event ?hg (N := 3) ?hd (cs := #[.int .i64 a1_0, .int .i64 a1_1, .int .i64 a1_2]) (t := 36) ?hr ?_; (case hd => rfl); (case hg => rfl); (case hr => first | (go_simp; done) | (go_simp; rfl)); intro gb205 hg w5 hbox hb; have n0_ := Aside0.mk (blk_below (g := gb204) (o := .cells #[.int .i64 a0_0, .int .i64 a0_1, .int .i64 a0_2] 36 (0, 0)) (by (with_reducible repeat (first | refine blk_drewN ?_ _ | refine blk_drew ?_ | refine blk_alloc ?_ _)); exact BK204.out) hb); have n1_ := Aside0.mk (below_step (by repeat (first | (with_reducible first | exact HB.out | apply below_alloc | apply pw_below_drewN | apply below_drew1 | refine below_set ?_ GE204.out) | exact HB.out)) hb); have n2_ := Aside0.mk (hbox); have n3_ := Aside0.mk ((by rw [hg]; exact (below_size (by repeat (first | (with_reducible first | exact HB.out | apply below_alloc | apply pw_below_drewN | apply below_drew1 | refine below_set ?_ GE204.out) | exact HB.out))) : w.heap.size ≤ gb205)); have n4_ := Aside0.mk ((by rw [hg]; exact (below_size (by repeat (first | (with_reducible first | exact HB.out | apply below_alloc | apply pw_below_drewN | apply below_drew1 | refine below_set ?_ GE204.out) | exact HB.out))) : w.heap.size ≤ gb205)); have n5_ := Aside0.mk ((by rw [hg]; exact Nat.ne_of_lt (blk_lt (g := gb204) (o := .cells #[.int .i64 a0_0, .int .i64 a0_1, .int .i64 a0_2] 36 (0, 0)) (by (with_reducible repeat (first | refine blk_drewN ?_ _ | refine blk_drew ?_ | refine blk_alloc ?_ _)); exact BK204.out)) : gb204 ≠ gb205)); have n6_ := Aside0.mk ((by rw [hg]; exact Nat.ne_of_gt (blk_lt (g := gb204) (o := .cells #[.int .i64 a0_0, .int .i64 a0_1, .int .i64 a0_2] 36 (0, 0)) (by (with_reducible repeat (first | refine blk_drewN ?_ _ | refine blk_drew ?_ | refine blk_alloc ?_ _)); exact BK204.out)) : gb205 ≠ gb204)); clear BK204; clear HB; have BK204 := n0_; have HB := n1_; have BK205 := n2_; have GW205 := n3_; have GE205 := n4_; have NB204_205 := n5_; have NB205_204 := n6_; clear n0_ n1_ n2_ n3_ n4_ n5_ n6_; clear hb hbox hg; (try have hnb6 := NB204_205.out); (try have hnc6 := NB205_204.out); have hcz7_0 : w5.cell? ⟨gb204, 0, none⟩ = some (.int .i64 a0_0) := (blk_cell BK204.out 0).trans rfl; have hcz7_1 : w5.cell? ⟨gb204, 1, none⟩ = some (.int .i64 a0_1) := (blk_cell BK204.out 1).trans rfl; have hcz7_2 : w5.cell? ⟨gb204, 2, none⟩ = some (.int .i64 a0_2) := (blk_cell BK204.out 2).trans rfl; have hfz7_0 := blk_frozen BK204.out 0; have hfz7_1 := blk_frozen BK204.out 1; have hfz7_2 := blk_frozen BK204.out 2; have hcz8_0 : w5.cell? ⟨gb205, 0, none⟩ = some (.int .i64 a1_0) := (blk_cell BK205.out 0).trans rfl; have hcz8_1 : w5.cell? ⟨gb205, 1, none⟩ = some (.int .i64 a1_1) := (blk_cell BK205.out 1).trans rfl; have hcz8_2 : w5.cell? ⟨gb205, 2, none⟩ = some (.int .i64 a1_2) := (blk_cell BK205.out 2).trans rfl; have hfz8_0 := blk_frozen BK205.out 0; have hfz8_1 := blk_frozen BK205.out 1; have hfz8_2 := blk_frozen BK205.out 2))
  have H := HU3.out
  clear HU3
  by_cases c9 : a0_0 = a1_0
  · rw [if_pos c9] at H
    have c9b0 : (a0_0 == a1_0) = true := beq_iff_eq.mpr c9
    have c9b1 : (a0_0 != a1_0) = false := bne_eq_false_iff_eq.mpr c9
    clear c9
    (first | rw [c9b0] | (simp only [i64_w, i32_w]; rw [c9b0]) | (have cz_ := c9b0; simp only [bne, gt_iff_lt, Int.natCast_pos] at cz_; first | rw [cz_] | (simp only [i64_w, i32_w]; rw [cz_])) | skip)
    by_cases c10 : a0_1 = a1_1
    · rw [if_pos c10] at H
      have c10b0 : (a0_1 == a1_1) = true := beq_iff_eq.mpr c10
      have c10b1 : (a0_1 != a1_1) = false := bne_eq_false_iff_eq.mpr c10
      clear c10
      by_cases c11 : a0_2 = a1_2
      · rw [if_pos c11] at H
        have c11b0 : (a0_2 == a1_2) = true := beq_iff_eq.mpr c11
        have c11b1 : (a0_2 != a1_2) = false := bne_eq_false_iff_eq.mpr c11
        clear c11
        obtain rfl := Option.some.inj H
        (try have hnb12 := NB204_205.out)
        (try have hnc12 := NB205_204.out)
        have hcz13_0 : w5.cell? ⟨gb204, 0, none⟩ = some (.int .i64 a0_0) := (blk_cell BK204.out 0).trans rfl
        have hcz13_1 : w5.cell? ⟨gb204, 1, none⟩ = some (.int .i64 a0_1) := (blk_cell BK204.out 1).trans rfl
        have hcz13_2 : w5.cell? ⟨gb204, 2, none⟩ = some (.int .i64 a0_2) := (blk_cell BK204.out 2).trans rfl
        have hfz13_0 := blk_frozen BK204.out 0
        have hfz13_1 := blk_frozen BK204.out 1
        have hfz13_2 := blk_frozen BK204.out 2
        have hcz14_0 : w5.cell? ⟨gb205, 0, none⟩ = some (.int .i64 a1_0) := (blk_cell BK205.out 0).trans rfl
        have hcz14_1 : w5.cell? ⟨gb205, 1, none⟩ = some (.int .i64 a1_1) := (blk_cell BK205.out 1).trans rfl
        have hcz14_2 : w5.cell? ⟨gb205, 2, none⟩ = some (.int .i64 a1_2) := (blk_cell BK205.out 2).trans rfl
        have hfz14_0 := blk_frozen BK205.out 0
        have hfz14_1 := blk_frozen BK205.out 1
        have hfz14_2 := blk_frozen BK205.out 2
        go_wp2
        go_ret
        exact ⟨by first | rfl | (simp [errW_none, errW_some] <;> rfl) | (simp [*, errW_none, errW_some] <;> rfl), by repeat (first | (with_reducible first | exact HB.out | apply below_alloc | apply pw_below_drewN | apply below_drew1 | refine below_set ?_ GE204.out | refine below_set ?_ GE205.out) | exact HB.out)⟩
      · rw [if_neg c11] at H
        have c11b0 : (a0_2 == a1_2) = false := beq_eq_false_iff_ne.mpr c11
        have c11b1 : (a0_2 != a1_2) = true := bne_iff_ne.mpr c11
        obtain rfl := Option.some.inj H
        (try have hnb15 := NB204_205.out)
        (try have hnc15 := NB205_204.out)
        have hcz16_0 : w5.cell? ⟨gb204, 0, none⟩ = some (.int .i64 a0_0) := (blk_cell BK204.out 0).trans rfl
        have hcz16_1 : w5.cell? ⟨gb204, 1, none⟩ = some (.int .i64 a0_1) := (blk_cell BK204.out 1).trans rfl
        have hcz16_2 : w5.cell? ⟨gb204, 2, none⟩ = some (.int .i64 a0_2) := (blk_cell BK204.out 2).trans rfl
        have hfz16_0 := blk_frozen BK204.out 0
        have hfz16_1 := blk_frozen BK204.out 1
        have hfz16_2 := blk_frozen BK204.out 2
        have hcz17_0 : w5.cell? ⟨gb205, 0, none⟩ = some (.int .i64 a1_0) := (blk_cell BK205.out 0).trans rfl
        have hcz17_1 : w5.cell? ⟨gb205, 1, none⟩ = some (.int .i64 a1_1) := (blk_cell BK205.out 1).trans rfl
        have hcz17_2 : w5.cell? ⟨gb205, 2, none⟩ = some (.int .i64 a1_2) := (blk_cell BK205.out 2).trans rfl
        have hfz17_0 := blk_frozen BK205.out 0
        have hfz17_1 := blk_frozen BK205.out 1
        have hfz17_2 := blk_frozen BK205.out 2
        go_wp2
        go_ret
        exact ⟨by first | rfl | (simp [errW_none, errW_some] <;> rfl) | (simp [*, errW_none, errW_some] <;> rfl), by repeat (first | (with_reducible first | exact HB.out | apply below_alloc | apply pw_below_drewN | apply below_drew1 | refine below_set ?_ GE204.out | refine below_set ?_ GE205.out) | exact HB.out)⟩
    · rw [if_neg c10] at H
      have c10b0 : (a0_1 == a1_1) = false := beq_eq_false_iff_ne.mpr c10
      have c10b1 : (a0_1 != a1_1) = true := bne_iff_ne.mpr c10
      obtain rfl := Option.some.inj H
      (try have hnb18 := NB204_205.out)
      (try have hnc18 := NB205_204.out)
      have hcz19_0 : w5.cell? ⟨gb204, 0, none⟩ = some (.int .i64 a0_0) := (blk_cell BK204.out 0).trans rfl
      have hcz19_1 : w5.cell? ⟨gb204, 1, none⟩ = some (.int .i64 a0_1) := (blk_cell BK204.out 1).trans rfl
      have hcz19_2 : w5.cell? ⟨gb204, 2, none⟩ = some (.int .i64 a0_2) := (blk_cell BK204.out 2).trans rfl
      have hfz19_0 := blk_frozen BK204.out 0
      have hfz19_1 := blk_frozen BK204.out 1
      have hfz19_2 := blk_frozen BK204.out 2
      have hcz20_0 : w5.cell? ⟨gb205, 0, none⟩ = some (.int .i64 a1_0) := (blk_cell BK205.out 0).trans rfl
      have hcz20_1 : w5.cell? ⟨gb205, 1, none⟩ = some (.int .i64 a1_1) := (blk_cell BK205.out 1).trans rfl
      have hcz20_2 : w5.cell? ⟨gb205, 2, none⟩ = some (.int .i64 a1_2) := (blk_cell BK205.out 2).trans rfl
      have hfz20_0 := blk_frozen BK205.out 0
      have hfz20_1 := blk_frozen BK205.out 1
      have hfz20_2 := blk_frozen BK205.out 2
      go_wp2
      go_ret
      exact ⟨by first | rfl | (simp [errW_none, errW_some] <;> rfl) | (simp [*, errW_none, errW_some] <;> rfl), by repeat (first | (with_reducible first | exact HB.out | apply below_alloc | apply pw_below_drewN | apply below_drew1 | refine below_set ?_ GE204.out | refine below_set ?_ GE205.out) | exact HB.out)⟩
  · rw [if_neg c9] at H
    have c9b0 : (a0_0 == a1_0) = false := beq_eq_false_iff_ne.mpr c9
    have c9b1 : (a0_0 != a1_0) = true := bne_iff_ne.mpr c9
    (first | rw [c9b0] | (simp only [i64_w, i32_w]; rw [c9b0]) | (have cz_ := c9b0; simp only [bne, gt_iff_lt, Int.natCast_pos] at cz_; first | rw [cz_] | (simp only [i64_w, i32_w]; rw [cz_])) | skip)
    obtain rfl := Option.some.inj H
    go_wp2
    go_ret
    exact ⟨by first | rfl | (simp [errW_none, errW_some] <;> rfl) | (simp [*, errW_none, errW_some] <;> rfl), by repeat (first | (with_reducible first | exact HB.out | apply below_alloc | apply pw_below_drewN | apply below_drew1 | refine below_set ?_ GE204.out | refine below_set ?_ GE205.out) | exact HB.out)⟩

end Go.Proofs.Ytecabogkenabnad.PFnExactLineOk
