-- by a program of this session's, over the kit's words
import Derived.Test.YteecolnemffffaaPZFnExactTreeOk
import Derived.Test.YteecolnemffffaaPFnExactTreeOkx0
import Derived.Test.YteecolnemffffaaPFnExactTreeOkx2
import Derived.Test.YteecolnemffffaaPFnExactTreeOkx5
import Derived.Test.YteecolnemffffaaPFnExactTreeOkx6
import Derived.Test.YteecolnemffffaaPFnExactTreeOkx10
namespace Go.Proofs.Yteecolnemffffaa.PFnExactTreeOk
open Go.RowKit Go.Proofs.YteecolnemffffaaW.PrintWords Go.Proofs.YteecolnemffffaaW.PrintLast Go.Proofs.YteecolnemffffaaW.PrintMore Go.Proofs.YteecolnemffffaaV Go.Proofs.Yteecolnemffffaa.ZFnExactTreeOk
attribute [local go_sem] max2_int min2_int max_two min_two max_three min_three max_four min_four   -- for this text's walks alone
set_option linter.unusedVariables false
set_option linter.unusedSimpArgs false

/-! ### laws_FnExactTreeOk: function 14 -/
def laws_FnExactTreeOk.f (k : Nat) (a0_0 : Int) (a0_1 : Int) (a0_2 : Int) (a0_3 : Int) (l0_4 : List (S183)) (l0_5 : List (S165)) : Option (Bool) := (laws_szTree.f k a0_0 a0_1 a0_2 a0_3 l0_4 l0_5 1048576).bind fun t287 => (if t287 < 0 then (some true) else ((laws_toTree.f k a0_0 a0_1 a0_2 a0_3 l0_4 l0_5).bind fun bt288 => ((spec_TreeOk.f k bt288.1 bt288.2.1 bt288.2.2.1 bt288.2.2.2.1 bt288.2.2.2.2.1 bt288.2.2.2.2.2).bind fun t298 => ((laws_toTree.f k a0_0 a0_1 a0_2 a0_3 l0_4 l0_5).bind fun bt299 => ((impl_TreeOk.f k bt299.1 bt299.2.1 bt299.2.2.1 bt299.2.2.2.1 bt299.2.2.2.2.1 bt299.2.2.2.2.2).bind fun t310 => (if (t310 != t298) = true then (some false) else ((laws_toTree.f k a0_0 a0_1 a0_2 a0_3 l0_4 l0_5).bind fun bt311 => ((laws_eqTree.f k bt299.1 bt299.2.1 bt299.2.2.1 bt299.2.2.2.1 bt299.2.2.2.2.1 bt299.2.2.2.2.2 bt311.1 bt311.2.1 bt311.2.2.1 bt311.2.2.2.1 bt311.2.2.2.2.1 bt311.2.2.2.2.2).bind fun t321 => (if t321 = true then (some true) else (some false))))))))))
set_option maxHeartbeats 8000000 in
set_option maxRecDepth 100000 in
theorem laws_FnExactTreeOk.calls (k : Nat) (a0_0 : Int) (a0_1 : Int) (a0_2 : Int) (a0_3 : Int) (A0_4 : Option Addr) (c0_4 : Nat) (l0_4 : List (S183)) (A0_5 : Option Addr) (c0_5 : Nat) (l0_5 : List (S165)) (r : Bool) (w : World) (hr0_4 : Kd.C k183 w A0_4 l0_4.length l0_4) (hc0_4 : l0_4.length ≤ c0_4) (hr0_5 : Kd.C k165 w A0_5 l0_5.length l0_5) (hc0_5 : l0_5.length ≤ c0_5) (hr_ : Aside0 (r = true)) (h : laws_FnExactTreeOk.f k a0_0 a0_1 a0_2 a0_3 l0_4 l0_5 = some r) :
    Calls Try.prog 14 #[.agg #[.int .i64 a0_0, .int .i64 a0_1, .int .i64 a0_2, .int .i64 a0_3, .slice A0_4 l0_4.length c0_4, .slice A0_5 l0_5.length c0_5]] w fun e w' => e = .returned (.bool r) ∧ Below w.heap.size w w' := by
  have hu87 := Try.underlying87
  have hu55 := Try.underlying55
  have HR0_4 := Aside0.mk hr0_4
  have HC0_4 := Aside0.mk hc0_4
  clear hr0_4 hc0_4
  have HR0_5 := Aside0.mk hr0_5
  have HC0_5 := Aside0.mk hc0_5
  clear hr0_5 hc0_5
  have HB := Aside0.mk (Below.refl w.heap.size w)
  have H : ((laws_szTree.f k a0_0 a0_1 a0_2 a0_3 l0_4 l0_5 1048576).bind fun t287 => (if t287 < 0 then (some true) else ((laws_toTree.f k a0_0 a0_1 a0_2 a0_3 l0_4 l0_5).bind fun bt288 => ((spec_TreeOk.f k bt288.1 bt288.2.1 bt288.2.2.1 bt288.2.2.2.1 bt288.2.2.2.2.1 bt288.2.2.2.2.2).bind fun t298 => ((laws_toTree.f k a0_0 a0_1 a0_2 a0_3 l0_4 l0_5).bind fun bt299 => ((impl_TreeOk.f k bt299.1 bt299.2.1 bt299.2.2.1 bt299.2.2.2.1 bt299.2.2.2.2.1 bt299.2.2.2.2.2).bind fun t310 => (if (t310 != t298) = true then (some false) else ((laws_toTree.f k a0_0 a0_1 a0_2 a0_3 l0_4 l0_5).bind fun bt311 => ((laws_eqTree.f k bt299.1 bt299.2.1 bt299.2.2.1 bt299.2.2.2.1 bt299.2.2.2.2.1 bt299.2.2.2.2.2 bt311.1 bt311.2.1 bt311.2.2.1 bt311.2.2.2.1 bt311.2.2.2.2.1 bt311.2.2.2.2.2).bind fun t321 => (if t321 = true then (some true) else (some false))))))))))) = some r := h
  clear h
  replace H := Option.bind_eq_some_iff.mp H
  obtain ⟨t287, A20, H⟩ := H
  replace H : (if t287 < 0 then (some true) else ((laws_toTree.f k a0_0 a0_1 a0_2 a0_3 l0_4 l0_5).bind fun bt288 => ((spec_TreeOk.f k bt288.1 bt288.2.1 bt288.2.2.1 bt288.2.2.2.1 bt288.2.2.2.2.1 bt288.2.2.2.2.2).bind fun t298 => ((laws_toTree.f k a0_0 a0_1 a0_2 a0_3 l0_4 l0_5).bind fun bt299 => ((impl_TreeOk.f k bt299.1 bt299.2.1 bt299.2.2.1 bt299.2.2.2.1 bt299.2.2.2.2.1 bt299.2.2.2.2.2).bind fun t310 => (if (t310 != t298) = true then (some false) else ((laws_toTree.f k a0_0 a0_1 a0_2 a0_3 l0_4 l0_5).bind fun bt311 => ((laws_eqTree.f k bt299.1 bt299.2.1 bt299.2.2.1 bt299.2.2.2.1 bt299.2.2.2.2.1 bt299.2.2.2.2.2 bt311.1 bt311.2.1 bt311.2.2.1 bt311.2.2.2.1 bt311.2.2.2.2.1 bt311.2.2.2.2.2).bind fun t321 => (if t321 = true then (some true) else (some false)))))))))) = some r := H
  have A2 := Aside0.mk A20
  clear A20
  have HU3 := Aside0.mk H
  clear H
  go_enter Try.func14, Try.ntmps14
  go_upto_if 11 with (first | ((with_reducible refine gate_dst (N := 1) rfl ?_); refine box_event ?hg (N := 1) ?hd (cs := #[.int .i64 a0_0, .int .i64 a0_1, .int .i64 a0_2, .int .i64 a0_3, .slice A0_4 l0_4.length c0_4, .slice A0_5 l0_5.length c0_5]) (t := 87) ?hr ?_; (case hd => rfl); (case hg => rfl); (case hr => first | (go_simp; done) | (go_simp; rfl)); intro gb286 hg w4 hbox hb; have n0_ := Aside0.mk (below_step Z42 hb); have n1_ := Aside0.mk (hbox); have n2_ := Aside0.mk ((by rw [hg]; exact (below_size Z42) : w.heap.size ≤ gb286)); have n3_ := Aside0.mk ((by rw [hg]; exact (below_size Z42) : w.heap.size ≤ gb286)); clear HB; have HB := n0_; have BK286 := n1_; have GW286 := n2_; have GE286 := n3_; clear n0_ n1_ n2_ n3_; clear hb hbox hg; have hcz5_0 : w4.cell? ⟨gb286, 0, none⟩ = some (.int .i64 a0_0) := (blk_cell BK286.out 0).trans rfl; have hcz5_1 : w4.cell? ⟨gb286, 1, none⟩ = some (.int .i64 a0_1) := (blk_cell BK286.out 1).trans rfl; have hcz5_2 : w4.cell? ⟨gb286, 2, none⟩ = some (.int .i64 a0_2) := (blk_cell BK286.out 2).trans rfl; have hcz5_3 : w4.cell? ⟨gb286, 3, none⟩ = some (.int .i64 a0_3) := (blk_cell BK286.out 3).trans rfl; have hcz5_4 : w4.cell? ⟨gb286, 4, none⟩ = some (.slice A0_4 l0_4.length c0_4) := (blk_cell BK286.out 4).trans rfl; have hcz5_5 : w4.cell? ⟨gb286, 5, none⟩ = some (.slice A0_5 l0_5.length c0_5) := (blk_cell BK286.out 5).trans rfl; have hfz5_0 := blk_frozen BK286.out 0; have hfz5_1 := blk_frozen BK286.out 1; have hfz5_2 := blk_frozen BK286.out 2; have hfz5_3 := blk_frozen BK286.out 3; have hfz5_4 := blk_frozen BK286.out 4; have hfz5_5 := blk_frozen BK286.out 5) | ((with_reducible refine gate_callee (f := 57) rfl ?_); refine goesL_ (some 9) rfl rfl Try.func57 (by kernel_rfl) rfl #[.agg #[.int .i64 a0_0, .int .i64 a0_1, .int .i64 a0_2, .int .i64 a0_3, .slice A0_4 l0_4.length c0_4, .slice A0_5 l0_5.length c0_5], .int .i64 1048576] rfl Z41 ?_; (with_reducible refine (laws_szTree.calls k a0_0 a0_1 a0_2 a0_3 _ _ l0_4 _ _ l0_5 1048576 t287 _ ?side1 ?side2 ?side3 ?side4 A2.out).mono ?_); (case side1 => repeat (first | exact (Kd.C_below HR0_4.out HB.out) | (with_reducible refine Kd.C_alloc ?_ _) | (with_reducible refine Kd.C_drewN ?_ _) | (with_reducible refine Kd.C_drew ?_))); (case side2 => exact HC0_4.out); (case side3 => repeat (first | exact (Kd.C_below HR0_5.out HB.out) | (with_reducible refine Kd.C_alloc ?_ _) | (with_reducible refine Kd.C_drewN ?_ _) | (with_reducible refine Kd.C_drew ?_))); (case side4 => exact HC0_5.out); rintro e w6 ⟨rfl, hb⟩; refine ⟨_, rfl, ?_⟩; have n0_ := Aside0.mk (blk_below (g := gb286) (o := .cells #[.int .i64 a0_0, .int .i64 a0_1, .int .i64 a0_2, .int .i64 a0_3, .slice A0_4 l0_4.length c0_4, .slice A0_5 l0_5.length c0_5] 87 (0, 0)) Z84 hb); have n1_ := Aside0.mk (below_step Z40 hb); clear BK286; clear HB; have BK286 := n0_; have HB := n1_; clear n0_ n1_; (try clear hb); (try clear hb2); (try clear hk); (try clear hi)))
  have H := HU3.out
  clear HU3
  by_cases c7 : t287 < 0
  · rw [if_pos c7] at H
    have c7b0 : decide (t287 < 0) = true := decide_eq_true c7
    clear c7
    (first | rw [c7b0] | (simp only [i64_w, i32_w]; rw [c7b0]) | (have cz_ := c7b0; simp only [bne, gt_iff_lt, Int.natCast_pos] at cz_; first | rw [cz_] | (simp only [i64_w, i32_w]; rw [cz_])) | skip)
    obtain rfl := Option.some.inj H
    go_wp2
    go_ret
    exact ⟨by first | rfl | (simp [errW_none, errW_some] <;> rfl) | (simp [*, errW_none, errW_some] <;> rfl), by repeat (first | (with_reducible first | exact HB.out | apply below_alloc | apply pw_below_drewN | apply below_drew1 | refine below_set ?_ GE286.out) | exact HB.out)⟩
  · rw [if_neg c7] at H
    have c7b0 : decide (t287 < 0) = false := decide_eq_false c7
    clear c7
    (first | rw [c7b0] | (simp only [i64_w, i32_w]; rw [c7b0]) | (have cz_ := c7b0; simp only [bne, gt_iff_lt, Int.natCast_pos] at cz_; first | rw [cz_] | (simp only [i64_w, i32_w]; rw [cz_])) | skip)
    replace H := Option.bind_eq_some_iff.mp H
    obtain ⟨⟨t288, t289, t290, t291, t292, t295⟩, A80, H⟩ := H
    replace H : ((spec_TreeOk.f k t288 t289 t290 t291 t292 t295).bind fun t298 => ((laws_toTree.f k a0_0 a0_1 a0_2 a0_3 l0_4 l0_5).bind fun bt299 => ((impl_TreeOk.f k bt299.1 bt299.2.1 bt299.2.2.1 bt299.2.2.2.1 bt299.2.2.2.2.1 bt299.2.2.2.2.2).bind fun t310 => (if (t310 != t298) = true then (some false) else ((laws_toTree.f k a0_0 a0_1 a0_2 a0_3 l0_4 l0_5).bind fun bt311 => ((laws_eqTree.f k bt299.1 bt299.2.1 bt299.2.2.1 bt299.2.2.2.1 bt299.2.2.2.2.1 bt299.2.2.2.2.2 bt311.1 bt311.2.1 bt311.2.2.1 bt311.2.2.2.1 bt311.2.2.2.2.1 bt311.2.2.2.2.2).bind fun t321 => (if t321 = true then (some true) else (some false)))))))) = some r := H
    have A8 := Aside0.mk A80
    clear A80
    replace H := Option.bind_eq_some_iff.mp H
    obtain ⟨t298, A90, H⟩ := H
    replace H : ((laws_toTree.f k a0_0 a0_1 a0_2 a0_3 l0_4 l0_5).bind fun bt299 => ((impl_TreeOk.f k bt299.1 bt299.2.1 bt299.2.2.1 bt299.2.2.2.1 bt299.2.2.2.2.1 bt299.2.2.2.2.2).bind fun t310 => (if (t310 != t298) = true then (some false) else ((laws_toTree.f k a0_0 a0_1 a0_2 a0_3 l0_4 l0_5).bind fun bt311 => ((laws_eqTree.f k bt299.1 bt299.2.1 bt299.2.2.1 bt299.2.2.2.1 bt299.2.2.2.2.1 bt299.2.2.2.2.2 bt311.1 bt311.2.1 bt311.2.2.1 bt311.2.2.2.1 bt311.2.2.2.2.1 bt311.2.2.2.2.2).bind fun t321 => (if t321 = true then (some true) else (some false))))))) = some r := H
    have A9 := Aside0.mk A90
    clear A90
    replace H := Option.bind_eq_some_iff.mp H
    obtain ⟨⟨t299, t300, t301, t302, t303, t306⟩, A100, H⟩ := H
    replace H : ((impl_TreeOk.f k t299 t300 t301 t302 t303 t306).bind fun t310 => (if (t310 != t298) = true then (some false) else ((laws_toTree.f k a0_0 a0_1 a0_2 a0_3 l0_4 l0_5).bind fun bt311 => ((laws_eqTree.f k t299 t300 t301 t302 t303 t306 bt311.1 bt311.2.1 bt311.2.2.1 bt311.2.2.2.1 bt311.2.2.2.2.1 bt311.2.2.2.2.2).bind fun t321 => (if t321 = true then (some true) else (some false)))))) = some r := H
    have A10 := Aside0.mk A100
    clear A100
    replace H := Option.bind_eq_some_iff.mp H
    obtain ⟨t310, A110, H⟩ := H
    replace H : (if (t310 != t298) = true then (some false) else ((laws_toTree.f k a0_0 a0_1 a0_2 a0_3 l0_4 l0_5).bind fun bt311 => ((laws_eqTree.f k t299 t300 t301 t302 t303 t306 bt311.1 bt311.2.1 bt311.2.2.1 bt311.2.2.2.1 bt311.2.2.2.2.1 bt311.2.2.2.2.2).bind fun t321 => (if t321 = true then (some true) else (some false))))) = some r := H
    have A11 := Aside0.mk A110
    clear A110
    have HU12 := Aside0.mk H
    clear H
    have hcz13_0 : w6.cell? ⟨gb286, 0, none⟩ = some (.int .i64 a0_0) := (blk_cell BK286.out 0).trans rfl
    have hcz13_1 : w6.cell? ⟨gb286, 1, none⟩ = some (.int .i64 a0_1) := (blk_cell BK286.out 1).trans rfl
    have hcz13_2 : w6.cell? ⟨gb286, 2, none⟩ = some (.int .i64 a0_2) := (blk_cell BK286.out 2).trans rfl
    have hcz13_3 : w6.cell? ⟨gb286, 3, none⟩ = some (.int .i64 a0_3) := (blk_cell BK286.out 3).trans rfl
    have hcz13_4 : w6.cell? ⟨gb286, 4, none⟩ = some (.slice A0_4 l0_4.length c0_4) := (blk_cell BK286.out 4).trans rfl
    have hcz13_5 : w6.cell? ⟨gb286, 5, none⟩ = some (.slice A0_5 l0_5.length c0_5) := (blk_cell BK286.out 5).trans rfl
    have hfz13_0 := blk_frozen BK286.out 0
    have hfz13_1 := blk_frozen BK286.out 1
    have hfz13_2 := blk_frozen BK286.out 2
    have hfz13_3 := blk_frozen BK286.out 3
    have hfz13_4 := blk_frozen BK286.out 4
    have hfz13_5 := blk_frozen BK286.out 5
    go_upto_if 21 with (first | ((with_reducible refine gate_callee (f := 59) rfl ?_); refine goesL_ (some 13) rfl rfl Try.func59 (by kernel_rfl) rfl #[.agg #[.int .i64 a0_0, .int .i64 a0_1, .int .i64 a0_2, .int .i64 a0_3, .slice A0_4 l0_4.length c0_4, .slice A0_5 l0_5.length c0_5]] rfl Z41 ?_; (with_reducible refine (laws_toTree.calls k a0_0 a0_1 a0_2 a0_3 _ _ l0_4 _ _ l0_5 t288 t289 t290 t291 t292 t295 _ ?side1 ?side2 ?side3 ?side4 A8.out).mono ?_); (case side1 => repeat (first | exact (Kd.C_below HR0_4.out HB.out) | (with_reducible refine Kd.C_alloc ?_ _) | (with_reducible refine Kd.C_drewN ?_ _) | (with_reducible refine Kd.C_drew ?_))); (case side2 => exact HC0_4.out); (case side3 => repeat (first | exact (Kd.C_below HR0_5.out HB.out) | (with_reducible refine Kd.C_alloc ?_ _) | (with_reducible refine Kd.C_drewN ?_ _) | (with_reducible refine Kd.C_drew ?_))); (case side4 => exact HC0_5.out); rintro e w14 ⟨v293, v296, rfl, ho0, ho1, hb⟩; refine ⟨_, rfl, ?_⟩; have n0_ := Aside0.mk (Kd.R_lower ho0 (below_size Z40)); have n1_ := Aside0.mk (Kd.S_lower ho1 (below_size Z40)); have n2_ := Aside0.mk (blk_below (g := gb286) (o := .cells #[.int .i64 a0_0, .int .i64 a0_1, .int .i64 a0_2, .int .i64 a0_3, .slice A0_4 l0_4.length c0_4, .slice A0_5 l0_5.length c0_5] 87 (0, 0)) Z84 hb); have n3_ := Aside0.mk (below_step Z40 hb); clear BK286; clear HB; have HO294 := n0_; have HO297 := n1_; have BK286 := n2_; have HB := n3_; clear n0_ n1_ n2_ n3_; (try clear hb); (try clear hb2); (try clear hk); (try clear hi); (try clear ho0); (try clear ho1); obtain ⟨Ao15, co15, eo15⟩ := Kd.R_slice HO294.out; subst eo15; obtain ⟨Ao16, co16, eo16⟩ := Kd.S_slice HO297.out; subst eo16) | ((with_reducible refine gate_callee (f := 58) rfl ?_); refine goesL_ (some 14) rfl rfl Try.func58 (by kernel_rfl) rfl #[.agg #[.int .i64 t288, .int .i64 t289, .int .i64 t290, .int .i64 t291, .slice Ao15 t292.length co15, .slice Ao16 t295.length co16]] rfl Z41 ?_; (with_reducible refine (spec_TreeOk.calls k t288 t289 t290 t291 _ _ t292 _ _ t295 t298 _ ?side1 ?side2 ?side3 ?side4 A9.out).mono ?_); (case side1 => repeat (first | exact (Kd.R_reads' HO294.out).2.2 | (with_reducible refine Kd.C_alloc ?_ _) | (with_reducible refine Kd.C_drewN ?_ _) | (with_reducible refine Kd.C_drew ?_))); (case side2 => exact (Kd.R_reads' HO294.out).2.1); (case side3 => repeat (first | exact (Kd.S_reads' HO297.out).2.2 | (with_reducible refine Kd.C_alloc ?_ _) | (with_reducible refine Kd.C_drewN ?_ _) | (with_reducible refine Kd.C_drew ?_))); (case side4 => exact (Kd.S_reads' HO297.out).2.1); rintro e w17 ⟨rfl, hb⟩; refine ⟨_, rfl, ?_⟩; have n0_ := Aside0.mk (Kd.R_below Z87 hb); have n1_ := Aside0.mk (Kd.S_below Z88 hb); have n2_ := Aside0.mk (blk_below (g := gb286) (o := .cells #[.int .i64 a0_0, .int .i64 a0_1, .int .i64 a0_2, .int .i64 a0_3, .slice A0_4 l0_4.length c0_4, .slice A0_5 l0_5.length c0_5] 87 (0, 0)) Z84 hb); have n3_ := Aside0.mk (below_step Z40 hb); clear HO294; clear HO297; clear BK286; clear HB; have HO294 := n0_; have HO297 := n1_; have BK286 := n2_; have HB := n3_; clear n0_ n1_ n2_ n3_; (try clear hb); (try clear hb2); (try clear hk); (try clear hi); have hcz18_0 : w17.cell? ⟨gb286, 0, none⟩ = some (.int .i64 a0_0) := (blk_cell BK286.out 0).trans rfl; have hcz18_1 : w17.cell? ⟨gb286, 1, none⟩ = some (.int .i64 a0_1) := (blk_cell BK286.out 1).trans rfl; have hcz18_2 : w17.cell? ⟨gb286, 2, none⟩ = some (.int .i64 a0_2) := (blk_cell BK286.out 2).trans rfl; have hcz18_3 : w17.cell? ⟨gb286, 3, none⟩ = some (.int .i64 a0_3) := (blk_cell BK286.out 3).trans rfl; have hcz18_4 : w17.cell? ⟨gb286, 4, none⟩ = some (.slice A0_4 l0_4.length c0_4) := (blk_cell BK286.out 4).trans rfl; have hcz18_5 : w17.cell? ⟨gb286, 5, none⟩ = some (.slice A0_5 l0_5.length c0_5) := (blk_cell BK286.out 5).trans rfl; have hfz18_0 := blk_frozen BK286.out 0; have hfz18_1 := blk_frozen BK286.out 1; have hfz18_2 := blk_frozen BK286.out 2; have hfz18_3 := blk_frozen BK286.out 3; have hfz18_4 := blk_frozen BK286.out 4; have hfz18_5 := blk_frozen BK286.out 5) | ((with_reducible refine gate_callee (f := 59) rfl ?_); refine goesL_ (some 16) rfl rfl Try.func59 (by kernel_rfl) rfl #[.agg #[.int .i64 a0_0, .int .i64 a0_1, .int .i64 a0_2, .int .i64 a0_3, .slice A0_4 l0_4.length c0_4, .slice A0_5 l0_5.length c0_5]] rfl Z41 ?_; (with_reducible refine (laws_toTree.calls k a0_0 a0_1 a0_2 a0_3 _ _ l0_4 _ _ l0_5 t299 t300 t301 t302 t303 t306 _ ?side1 ?side2 ?side3 ?side4 A10.out).mono ?_); (case side1 => repeat (first | exact (Kd.C_below HR0_4.out HB.out) | (with_reducible refine Kd.C_alloc ?_ _) | (with_reducible refine Kd.C_drewN ?_ _) | (with_reducible refine Kd.C_drew ?_))); (case side2 => exact HC0_4.out); (case side3 => repeat (first | exact (Kd.C_below HR0_5.out HB.out) | (with_reducible refine Kd.C_alloc ?_ _) | (with_reducible refine Kd.C_drewN ?_ _) | (with_reducible refine Kd.C_drew ?_))); (case side4 => exact HC0_5.out); rintro e w19 ⟨v304, v307, rfl, ho0, ho1, hb⟩; refine ⟨_, rfl, ?_⟩; have n0_ := Aside0.mk (Kd.R_elder' Z87 (Kd.R_base ho0) hb); have n1_ := Aside0.mk (Kd.S_mono (Kd.S_told (Kd.S_told (Kd.S_old Z88 hb) (Kd.R_base ho0)) (Kd.S_base ho1)) (fun _ h_ => h_.1)); have n2_ := Aside0.mk (Kd.R_lower (Kd.R_new' ho0 (Kd.R_lt Z87)) (below_size Z40)); have n3_ := Aside0.mk (Kd.S_lower (Kd.S_new' (Kd.S_new' ho1 (Kd.R_lt Z87)) (Kd.S_lt Z88)) (below_size Z40)); have n4_ := Aside0.mk (blk_below (g := gb286) (o := .cells #[.int .i64 a0_0, .int .i64 a0_1, .int .i64 a0_2, .int .i64 a0_3, .slice A0_4 l0_4.length c0_4, .slice A0_5 l0_5.length c0_5] 87 (0, 0)) Z84 hb); have n5_ := Aside0.mk (below_step Z40 hb); clear HO294; clear HO297; clear BK286; clear HB; have HO294 := n0_; have HO297 := n1_; have HO305 := n2_; have HO308 := n3_; have BK286 := n4_; have HB := n5_; clear n0_ n1_ n2_ n3_ n4_ n5_; (try clear hb); (try clear hb2); (try clear hk); (try clear hi); (try clear ho0); (try clear ho1)) | ((with_reducible refine gate_dst (N := 5) rfl ?_); refine box_event ?hg (N := 5) ?hd (cs := #[.int .i64 0, .int .i64 0, .int .i64 0, .int .i64 0, .slice none 0 0, .slice none 0 0]) (t := 55) ?hr ?_; (case hd => rfl); (case hg => rfl); (case hr => first | (go_simp; done) | (go_simp; rfl)); intro gb309 hg w20 hbox hb; have n0_ := Aside0.mk (Kd.R_below Z87 hb); have n1_ := Aside0.mk (Kd.S_below Z88 hb); have n2_ := Aside0.mk (Kd.R_below Z89 hb); have n3_ := Aside0.mk (Kd.S_below Z90 hb); have n4_ := Aside0.mk (blk_below (g := gb286) (o := .cells #[.int .i64 a0_0, .int .i64 a0_1, .int .i64 a0_2, .int .i64 a0_3, .slice A0_4 l0_4.length c0_4, .slice A0_5 l0_5.length c0_5] 87 (0, 0)) Z84 hb); have n5_ := Aside0.mk (below_step Z40 hb); have n6_ := Aside0.mk (hbox); have n7_ := Aside0.mk ((by rw [hg]; exact (below_size Z40) : w.heap.size ≤ gb309)); have n8_ := Aside0.mk ((by rw [hg]; exact (below_size Z40) : w.heap.size ≤ gb309)); have n9_ := Aside0.mk ((by rw [hg]; exact Nat.ne_of_lt (blk_lt (g := gb286) (o := .cells #[.int .i64 a0_0, .int .i64 a0_1, .int .i64 a0_2, .int .i64 a0_3, .slice A0_4 l0_4.length c0_4, .slice A0_5 l0_5.length c0_5] 87 (0, 0)) Z84) : gb286 ≠ gb309)); have n10_ := Aside0.mk ((by rw [hg]; exact Nat.ne_of_gt (blk_lt (g := gb286) (o := .cells #[.int .i64 a0_0, .int .i64 a0_1, .int .i64 a0_2, .int .i64 a0_3, .slice A0_4 l0_4.length c0_4, .slice A0_5 l0_5.length c0_5] 87 (0, 0)) Z84) : gb309 ≠ gb286)); clear HO294; clear HO297; clear HO305; clear HO308; clear BK286; clear HB; have HO294 := n0_; have HO297 := n1_; have HO305 := n2_; have HO308 := n3_; have BK286 := n4_; have HB := n5_; have BK309 := n6_; have GW309 := n7_; have GE309 := n8_; have NB286_309 := n9_; have NB309_286 := n10_; clear n0_ n1_ n2_ n3_ n4_ n5_ n6_ n7_ n8_ n9_ n10_; clear hb hbox hg; (try have hnb21 := NB309_286.out); (try have hnc21 := NB286_309.out); have hcz22_0 : w20.cell? ⟨gb309, 0, none⟩ = some (.int .i64 0) := (blk_cell BK309.out 0).trans rfl; have hcz22_1 : w20.cell? ⟨gb309, 1, none⟩ = some (.int .i64 0) := (blk_cell BK309.out 1).trans rfl; have hcz22_2 : w20.cell? ⟨gb309, 2, none⟩ = some (.int .i64 0) := (blk_cell BK309.out 2).trans rfl; have hcz22_3 : w20.cell? ⟨gb309, 3, none⟩ = some (.int .i64 0) := (blk_cell BK309.out 3).trans rfl; have hcz22_4 : w20.cell? ⟨gb309, 4, none⟩ = some (.slice none 0 0) := (blk_cell BK309.out 4).trans rfl; have hcz22_5 : w20.cell? ⟨gb309, 5, none⟩ = some (.slice none 0 0) := (blk_cell BK309.out 5).trans rfl; have hfz22_0 := blk_frozen BK309.out 0; have hfz22_1 := blk_frozen BK309.out 1; have hfz22_2 := blk_frozen BK309.out 2; have hfz22_3 := blk_frozen BK309.out 3; have hfz22_4 := blk_frozen BK309.out 4; have hfz22_5 := blk_frozen BK309.out 5; obtain ⟨Ao23, co23, eo23⟩ := Kd.R_slice HO305.out; subst eo23; obtain ⟨Ao24, co24, eo24⟩ := Kd.S_slice HO308.out; subst eo24) | ((with_reducible refine gate_callee (f := 60) rfl ?_); refine goesL_ (some 18) rfl rfl Try.func60 (by kernel_rfl) rfl #[.agg #[.int .i64 t299, .int .i64 t300, .int .i64 t301, .int .i64 t302, .slice Ao23 t303.length co23, .slice Ao24 t306.length co24]] rfl Z41 ?_; (with_reducible refine (impl_TreeOk.calls k t299 t300 t301 t302 _ _ t303 _ _ t306 t310 _ ?side1 ?side2 ?side3 ?side4 A11.out).mono ?_); (case side1 => refine (Kd.R_reads' (e := 136) (base := w.heap.size) (ok := fun k_ => (True ∧ some k_ ≠ (.slice Ao15 t292.length co15 : Value).ownBlock)) (n := t303.length) (c := co23) ?_).2.2; exact Z99); (case side2 => exact (Kd.R_reads' HO305.out).2.1); (case side3 => refine (Kd.S_reads' (e := 134) (base := w.heap.size) (ok := fun k_ => ((some k_ ≠ (.slice Ao23 t303.length co23 : Value).ownBlock ∧ some k_ ≠ (.slice Ao15 t292.length co15 : Value).ownBlock) ∧ some k_ ≠ (.slice Ao16 t295.length co16 : Value).ownBlock)) (n := t306.length) (c := co24) ?_).2.2; exact Z100); (case side4 => exact (Kd.S_reads' HO308.out).2.1); rintro e w25 ⟨rfl, hb⟩; refine ⟨_, rfl, ?_⟩; have n0_ := Aside0.mk (Kd.R_below (by (with_reducible repeat (first | apply Kd.R_alloc | apply Kd.R_drewN | apply Kd.R_drew)); exact (Kd.R_mono (Kd.R_far (p := ⟨gb309, 5, none⟩) (Kd.R_far (p := ⟨gb309, 4, none⟩) (Kd.R_far (p := ⟨gb309, 3, none⟩) (Kd.R_far (p := ⟨gb309, 2, none⟩) (Kd.R_far (p := ⟨gb309, 1, none⟩) (Kd.R_far (p := ⟨gb309, 0, none⟩) (Kd.R_types HO294.out BK309.out (by decide)) (fun _ hk => hk.2) (.int .i64 t299)) (fun _ hk => hk.2) (.int .i64 t300)) (fun _ hk => hk.2) (.int .i64 t301)) (fun _ hk => hk.2) (.int .i64 t302)) (fun _ hk => hk.2) (.slice Ao23 t303.length co23)) (fun _ hk => hk.2) (.slice Ao24 t306.length co24)) (fun _ h_ => h_.1))) hb); have n1_ := Aside0.mk (Kd.S_below (by (with_reducible repeat (first | apply Kd.S_alloc | apply Kd.S_drewN | apply Kd.S_drew)); exact (Kd.S_mono (Kd.S_far (p := ⟨gb309, 5, none⟩) (Kd.S_far (p := ⟨gb309, 4, none⟩) (Kd.S_far (p := ⟨gb309, 3, none⟩) (Kd.S_far (p := ⟨gb309, 2, none⟩) (Kd.S_far (p := ⟨gb309, 1, none⟩) (Kd.S_far (p := ⟨gb309, 0, none⟩) (Kd.S_types HO297.out BK309.out (by decide)) (fun _ hk => hk.2) (.int .i64 t299)) (fun _ hk => hk.2) (.int .i64 t300)) (fun _ hk => hk.2) (.int .i64 t301)) (fun _ hk => hk.2) (.int .i64 t302)) (fun _ hk => hk.2) (.slice Ao23 t303.length co23)) (fun _ hk => hk.2) (.slice Ao24 t306.length co24)) (fun _ h_ => h_.1))) hb); have n2_ := Aside0.mk (Kd.R_below Z99 hb); have n3_ := Aside0.mk (Kd.S_below Z100 hb); have n4_ := Aside0.mk (blk_below (g := gb286) (o := .cells #[.int .i64 a0_0, .int .i64 a0_1, .int .i64 a0_2, .int .i64 a0_3, .slice A0_4 l0_4.length c0_4, .slice A0_5 l0_5.length c0_5] 87 (0, 0)) (by (with_reducible repeat (first | refine blk_drewN ?_ _ | refine blk_drew ?_ | refine blk_alloc ?_ _)); refine blk_far ?_ NB286_309.out _; (with_reducible repeat (first | refine blk_drewN ?_ _ | refine blk_drew ?_ | refine blk_alloc ?_ _)); refine blk_far ?_ NB286_309.out _; (with_reducible repeat (first | refine blk_drewN ?_ _ | refine blk_drew ?_ | refine blk_alloc ?_ _)); refine blk_far ?_ NB286_309.out _; (with_reducible repeat (first | refine blk_drewN ?_ _ | refine blk_drew ?_ | refine blk_alloc ?_ _)); refine blk_far ?_ NB286_309.out _; (with_reducible repeat (first | refine blk_drewN ?_ _ | refine blk_drew ?_ | refine blk_alloc ?_ _)); refine blk_far ?_ NB286_309.out _; (with_reducible repeat (first | refine blk_drewN ?_ _ | refine blk_drew ?_ | refine blk_alloc ?_ _)); refine blk_far ?_ NB286_309.out _; (with_reducible repeat (first | refine blk_drewN ?_ _ | refine blk_drew ?_ | refine blk_alloc ?_ _)); exact BK286.out) hb); have n5_ := Aside0.mk (blk_below (g := gb309) (o := .cells #[.int .i64 t299, .int .i64 t300, .int .i64 t301, .int .i64 t302, .slice Ao23 t303.length co23, .slice Ao24 t306.length co24] 55 (0, 0)) (by (with_reducible repeat (first | refine blk_drewN ?_ _ | refine blk_drew ?_ | refine blk_alloc ?_ _)); refine blk_put (cs := #[.int .i64 t299, .int .i64 t300, .int .i64 t301, .int .i64 t302, .slice Ao23 t303.length co23, .slice none 0 0]) ?_ 5 _ rfl; (with_reducible repeat (first | refine blk_drewN ?_ _ | refine blk_drew ?_ | refine blk_alloc ?_ _)); refine blk_put (cs := #[.int .i64 t299, .int .i64 t300, .int .i64 t301, .int .i64 t302, .slice none 0 0, .slice none 0 0]) ?_ 4 _ rfl; (with_reducible repeat (first | refine blk_drewN ?_ _ | refine blk_drew ?_ | refine blk_alloc ?_ _)); refine blk_put (cs := #[.int .i64 t299, .int .i64 t300, .int .i64 t301, .int .i64 0, .slice none 0 0, .slice none 0 0]) ?_ 3 _ rfl; (with_reducible repeat (first | refine blk_drewN ?_ _ | refine blk_drew ?_ | refine blk_alloc ?_ _)); refine blk_put (cs := #[.int .i64 t299, .int .i64 t300, .int .i64 0, .int .i64 0, .slice none 0 0, .slice none 0 0]) ?_ 2 _ rfl; (with_reducible repeat (first | refine blk_drewN ?_ _ | refine blk_drew ?_ | refine blk_alloc ?_ _)); refine blk_put (cs := #[.int .i64 t299, .int .i64 0, .int .i64 0, .int .i64 0, .slice none 0 0, .slice none 0 0]) ?_ 1 _ rfl; (with_reducible repeat (first | refine blk_drewN ?_ _ | refine blk_drew ?_ | refine blk_alloc ?_ _)); refine blk_put (cs := #[.int .i64 0, .int .i64 0, .int .i64 0, .int .i64 0, .slice none 0 0, .slice none 0 0]) ?_ 0 _ rfl; (with_reducible repeat (first | refine blk_drewN ?_ _ | refine blk_drew ?_ | refine blk_alloc ?_ _)); exact BK309.out) hb); have n6_ := Aside0.mk (below_step Z19 hb); clear HO294; clear HO297; clear HO305; clear HO308; clear BK286; clear BK309; clear HB; have HO294 := n0_; have HO297 := n1_; have HO305 := n2_; have HO308 := n3_; have BK286 := n4_; have BK309 := n5_; have HB := n6_; clear n0_ n1_ n2_ n3_ n4_ n5_ n6_; (try clear hb); (try clear hb2); (try clear hk); (try clear hi)))
    have H := HU12.out
    clear HU12
    by_cases c26 : (t310 != t298) = true
    · rw [if_pos c26] at H
      have c26b0 : (t310 != t298) = true := c26
      (try (have c26b1 : decide (t310 = t298) = false := by simpa using c26))
      (try (have c26b2 : (t310 == t298) = false := by simpa using c26))
      (try (have c26b3 : ¬ (t310 = t298) := by simpa using c26))
      clear c26
      (first | rw [c26b0] | (simp only [i64_w, i32_w]; rw [c26b0]) | (have cz_ := c26b0; simp only [bne, gt_iff_lt, Int.natCast_pos] at cz_; first | rw [cz_] | (simp only [i64_w, i32_w]; rw [cz_])) | skip)
      exact absurd (Option.some.inj H) (by rw [hr_.out]; decide)
    · rw [if_neg c26] at H
      have c26b0 : (t310 != t298) = false := by simpa using c26
      (try (have c26b1 : decide (t310 = t298) = true := by simpa using c26))
      (try (have c26b2 : (t310 == t298) = true := by simpa using c26))
      clear c26
      (first | rw [c26b0] | (simp only [i64_w, i32_w]; rw [c26b0]) | (have cz_ := c26b0; simp only [bne, gt_iff_lt, Int.natCast_pos] at cz_; first | rw [cz_] | (simp only [i64_w, i32_w]; rw [cz_])) | skip)
      replace H := Option.bind_eq_some_iff.mp H
      obtain ⟨⟨t311, t312, t313, t314, t315, t318⟩, A270, H⟩ := H
      replace H : ((laws_eqTree.f k t299 t300 t301 t302 t303 t306 t311 t312 t313 t314 t315 t318).bind fun t321 => (if t321 = true then (some true) else (some false))) = some r := H
      have A27 := Aside0.mk A270
      clear A270
      replace H := Option.bind_eq_some_iff.mp H
      obtain ⟨t321, A280, H⟩ := H
      replace H : (if t321 = true then (some true) else (some false)) = some r := H
      have A28 := Aside0.mk A280
      clear A280
      have HU29 := Aside0.mk H
      clear H
      try go_wp2
      have n0_ := Aside0.mk (Kd.R_drew HO294.out)
      have n1_ := Aside0.mk (Kd.S_drew HO297.out)
      have n2_ := Aside0.mk (Kd.R_drew HO305.out)
      have n3_ := Aside0.mk (Kd.S_drew HO308.out)
      have n4_ := Aside0.mk (blk_drew BK286.out)
      have n5_ := Aside0.mk (blk_drew BK309.out)
      have n6_ := Aside0.mk (below_drew1 HB.out)
      clear HO294
      clear HO297
      clear HO305
      clear HO308
      clear BK286
      clear BK309
      clear HB
      have HO294 := n0_
      have HO297 := n1_
      have HO305 := n2_
      have HO308 := n3_
      have BK286 := n4_
      have BK309 := n5_
      have HB := n6_
      clear n0_ n1_ n2_ n3_ n4_ n5_ n6_
      refine start_ (n := 5) (S := fun w' => w'.cell? ⟨gb309, 0, none⟩ = some (.int .i64 t299) ∧ w'.cell? ⟨gb309, 1, none⟩ = some (.int .i64 t300) ∧ w'.cell? ⟨gb309, 2, none⟩ = some (.int .i64 t301) ∧ w'.cell? ⟨gb309, 3, none⟩ = some (.int .i64 t302) ∧ w'.cell? ⟨gb309, 4, none⟩ = some (.slice Ao23 t303.length co23) ∧ w'.cell? ⟨gb309, 5, none⟩ = some (.slice Ao24 t306.length co24) ∧ w'.cell? ⟨gb286, 0, none⟩ = some (.int .i64 a0_0) ∧ w'.cell? ⟨gb286, 1, none⟩ = some (.int .i64 a0_1) ∧ w'.cell? ⟨gb286, 2, none⟩ = some (.int .i64 a0_2) ∧ w'.cell? ⟨gb286, 3, none⟩ = some (.int .i64 a0_3) ∧ w'.cell? ⟨gb286, 4, none⟩ = some (.slice A0_4 l0_4.length c0_4) ∧ w'.cell? ⟨gb286, 5, none⟩ = some (.slice A0_5 l0_5.length c0_5)) (ds := []) (bz 5 0) (by kernel_rfl) rfl (by kernel_rfl) ⟨(blk_cell BK309.out 0).trans rfl, (blk_cell BK309.out 1).trans rfl, (blk_cell BK309.out 2).trans rfl, (blk_cell BK309.out 3).trans rfl, (blk_cell BK309.out 4).trans rfl, (blk_cell BK309.out 5).trans rfl, (blk_cell BK286.out 0).trans rfl, (blk_cell BK286.out 1).trans rfl, (blk_cell BK286.out 2).trans rfl, (blk_cell BK286.out 3).trans rfl, (blk_cell BK286.out 4).trans rfl, (blk_cell BK286.out 5).trans rfl⟩ (fun hHeld => ?_)
      generalize w25.drew = w30 at HO294 HO297 HO305 HO308 BK286 BK309 HB hHeld ⊢
      refine tx_ (i := 0) (N := some 22) (bz 5 1) rfl rfl (by kernel_rfl) hHeld Z92 ?_
      refine tx_ (i := 1) (N := some 23) (bz 5 3) rfl rfl (by kernel_rfl) hHeld Z92 ?_
      refine one_ (i := 2) (N := some 24) (bz 5 7) rfl rfl (by kernel_rfl) (by decide) (fun K hK => ?_)
      refine goes_ Try.func59 (by kernel_rfl) rfl #[.agg #[.int .i64 a0_0, .int .i64 a0_1, .int .i64 a0_2, .int .i64 a0_3, .slice A0_4 l0_4.length c0_4, .slice A0_5 l0_5.length c0_5]] (by rfl) rfl rfl Z41 ?_
      with_reducible refine (laws_toTree.calls k a0_0 a0_1 a0_2 a0_3 _ _ l0_4 _ _ l0_5 t311 t312 t313 t314 t315 t318 _ ?side1 ?side2 ?side3 ?side4 A27.out).mono ?_
      (case side1 => repeat (first | exact (Kd.C_below HR0_4.out HB.out) | (with_reducible refine Kd.C_alloc ?_ _) | (with_reducible refine Kd.C_drewN ?_ _) | (with_reducible refine Kd.C_drew ?_)))
      (case side2 => exact HC0_4.out)
      (case side3 => repeat (first | exact (Kd.C_below HR0_5.out HB.out) | (with_reducible refine Kd.C_alloc ?_ _) | (with_reducible refine Kd.C_drewN ?_ _) | (with_reducible refine Kd.C_drew ?_)))
      (case side4 => exact HC0_5.out)
      rintro e w31 ⟨v316, v319, rfl, ho0, ho1, hb⟩
      refine ⟨_, rfl, ?_⟩
      have n0_ := Aside0.mk (Kd.R_elder' Z87 (Kd.R_base ho0) hb)
      have n1_ := Aside0.mk (Kd.S_mono (Kd.S_told (Kd.S_told (Kd.S_old Z88 hb) (Kd.R_base ho0)) (Kd.S_base ho1)) (fun _ h_ => h_.1))
      have n2_ := Aside0.mk (Kd.R_elder' Z89 (Kd.R_base ho0) hb)
      have n3_ := Aside0.mk (Kd.S_mono (Kd.S_told (Kd.S_told (Kd.S_old Z90 hb) (Kd.R_base ho0)) (Kd.S_base ho1)) (fun _ h_ => h_.1))
      have n4_ := Aside0.mk (Kd.R_lower (Kd.R_new' (Kd.R_new' ho0 (Kd.R_lt Z87)) (Kd.R_lt Z89)) (below_size Z19))
      have n5_ := Aside0.mk (Kd.S_lower (Kd.S_new' (Kd.S_new' (Kd.S_new' (Kd.S_new' ho1 (Kd.R_lt Z87)) (Kd.S_lt Z88)) (Kd.R_lt Z89)) (Kd.S_lt Z90)) (below_size Z19))
      have n6_ := Aside0.mk (blk_below (g := gb286) (o := .cells #[.int .i64 a0_0, .int .i64 a0_1, .int .i64 a0_2, .int .i64 a0_3, .slice A0_4 l0_4.length c0_4, .slice A0_5 l0_5.length c0_5] 87 (0, 0)) Z84 hb)
      have n7_ := Aside0.mk (blk_below (g := gb309) (o := .cells #[.int .i64 t299, .int .i64 t300, .int .i64 t301, .int .i64 t302, .slice Ao23 t303.length co23, .slice Ao24 t306.length co24] 55 (0, 0)) Z85 hb)
      have n8_ := Aside0.mk (below_step Z19 hb)
      clear HO294
      clear HO297
      clear HO305
      clear HO308
      clear BK286
      clear BK309
      clear HB
      have HO294 := n0_
      have HO297 := n1_
      have HO305 := n2_
      have HO308 := n3_
      have HO317 := n4_
      have HO320 := n5_
      have BK286 := n6_
      have BK309 := n7_
      have HB := n8_
      clear n0_ n1_ n2_ n3_ n4_ n5_ n6_ n7_ n8_
      (try clear hb)
      (try clear hb2)
      (try clear hk)
      (try clear hi)
      (try clear ho0)
      (try clear ho1)
      obtain ⟨Ao32, co32, eo32⟩ := Kd.R_slice HO317.out
      (first | subst eo32 | (injection eo32 with f1_ f2_ f3_; have f4_ := f1_.symm; have f5_ := f3_.symm; clear f1_ f2_ f3_; subst f4_; subst f5_))
      obtain ⟨Ao33, co33, eo33⟩ := Kd.S_slice HO320.out
      (first | subst eo33 | (injection eo33 with f1_ f2_ f3_; have f4_ := f1_.symm; have f5_ := f3_.symm; clear f1_ f2_ f3_; subst f4_; subst f5_))
      refine hK.out _ _ ⟨(blk_cell BK309.out 0).trans rfl, (blk_cell BK309.out 1).trans rfl, (blk_cell BK309.out 2).trans rfl, (blk_cell BK309.out 3).trans rfl, (blk_cell BK309.out 4).trans rfl, (blk_cell BK309.out 5).trans rfl, (blk_cell BK286.out 0).trans rfl, (blk_cell BK286.out 1).trans rfl, (blk_cell BK286.out 2).trans rfl, (blk_cell BK286.out 3).trans rfl, (blk_cell BK286.out 4).trans rfl, (blk_cell BK286.out 5).trans rfl⟩ (fun hHeld => ?_)
      clear hK K
      refine nx_ (N := some 24) ?_
      refine one_ (i := 3) (N := some 25) (bz 5 15) rfl rfl (by kernel_rfl) (by decide) (fun K hK => ?_)
      refine goes_ Try.func37 (by kernel_rfl) rfl #[.agg #[.int .i64 t299, .int .i64 t300, .int .i64 t301, .int .i64 t302, .slice Ao23 t303.length co23, .slice Ao24 t306.length co24], .agg #[.int .i64 t311, .int .i64 t312, .int .i64 t313, .int .i64 t314, .slice Ao32 t315.length co32, .slice Ao33 t318.length co33]] (by rfl) rfl rfl Z41 ?_
      with_reducible refine (laws_eqTree.calls k t299 t300 t301 t302 _ _ t303 _ _ t306 t311 t312 t313 t314 _ _ t315 _ _ t318 t321 _ ?side1 ?side2 ?side3 ?side4 ?side5 ?side6 ?side7 ?side8 A28.out).mono ?_
      (case side1 => repeat (first | exact (Kd.R_reads' HO305.out).2.2 | (with_reducible refine Kd.C_alloc ?_ _) | (with_reducible refine Kd.C_drewN ?_ _) | (with_reducible refine Kd.C_drew ?_)))
      (case side2 => exact (Kd.R_reads' HO305.out).2.1)
      (case side3 => repeat (first | exact (Kd.S_reads' HO308.out).2.2 | (with_reducible refine Kd.C_alloc ?_ _) | (with_reducible refine Kd.C_drewN ?_ _) | (with_reducible refine Kd.C_drew ?_)))
      (case side4 => exact (Kd.S_reads' HO308.out).2.1)
      (case side5 => repeat (first | exact (Kd.R_reads' HO317.out).2.2 | (with_reducible refine Kd.C_alloc ?_ _) | (with_reducible refine Kd.C_drewN ?_ _) | (with_reducible refine Kd.C_drew ?_)))
      (case side6 => exact (Kd.R_reads' HO317.out).2.1)
      (case side7 => repeat (first | exact (Kd.S_reads' HO320.out).2.2 | (with_reducible refine Kd.C_alloc ?_ _) | (with_reducible refine Kd.C_drewN ?_ _) | (with_reducible refine Kd.C_drew ?_)))
      (case side8 => exact (Kd.S_reads' HO320.out).2.1)
      rintro e w34 ⟨rfl, hb⟩
      refine ⟨_, rfl, ?_⟩
      have n0_ := Aside0.mk (Kd.R_below Z87 hb)
      have n1_ := Aside0.mk (Kd.S_below Z88 hb)
      have n2_ := Aside0.mk (Kd.R_below Z89 hb)
      have n3_ := Aside0.mk (Kd.S_below Z90 hb)
      have n4_ := Aside0.mk (Kd.R_below (by (with_reducible repeat (first | apply Kd.R_alloc | apply Kd.R_drewN | apply Kd.R_drew)); exact HO317.out) hb)
      have n5_ := Aside0.mk (Kd.S_below (by (with_reducible repeat (first | apply Kd.S_alloc | apply Kd.S_drewN | apply Kd.S_drew)); exact HO320.out) hb)
      have n6_ := Aside0.mk (blk_below (g := gb286) (o := .cells #[.int .i64 a0_0, .int .i64 a0_1, .int .i64 a0_2, .int .i64 a0_3, .slice A0_4 l0_4.length c0_4, .slice A0_5 l0_5.length c0_5] 87 (0, 0)) Z84 hb)
      have n7_ := Aside0.mk (blk_below (g := gb309) (o := .cells #[.int .i64 t299, .int .i64 t300, .int .i64 t301, .int .i64 t302, .slice Ao23 t303.length co23, .slice Ao24 t306.length co24] 55 (0, 0)) Z85 hb)
      have n8_ := Aside0.mk (below_step Z19 hb)
      clear HO294
      clear HO297
      clear HO305
      clear HO308
      clear HO317
      clear HO320
      clear BK286
      clear BK309
      clear HB
      have HO294 := n0_
      have HO297 := n1_
      have HO305 := n2_
      have HO308 := n3_
      have HO317 := n4_
      have HO320 := n5_
      have BK286 := n6_
      have BK309 := n7_
      have HB := n8_
      clear n0_ n1_ n2_ n3_ n4_ n5_ n6_ n7_ n8_
      (try clear hb)
      (try clear hb2)
      (try clear hk)
      (try clear hi)
      refine hK.out _ _ ⟨(blk_cell BK309.out 0).trans rfl, (blk_cell BK309.out 1).trans rfl, (blk_cell BK309.out 2).trans rfl, (blk_cell BK309.out 3).trans rfl, (blk_cell BK309.out 4).trans rfl, (blk_cell BK309.out 5).trans rfl, (blk_cell BK286.out 0).trans rfl, (blk_cell BK286.out 1).trans rfl, (blk_cell BK286.out 2).trans rfl, (blk_cell BK286.out 3).trans rfl, (blk_cell BK286.out 4).trans rfl, (blk_cell BK286.out 5).trans rfl⟩ (fun hHeld => ?_)
      clear hK K
      refine nx_ (N := some 25) ?_
      refine px_ (i := 4) (N := some 26) (bz 5 31) (by kernel_rfl) ?_
      refine done_ (by kernel_rfl) ?_
      go_upto_if 26 with (fail)
      have H := HU29.out
      clear HU29
      by_cases c35 : t321 = true
      · subst c35
        have H1 : (some true) = some r := by rw [if_pos rfl] at H; exact H
        clear H
        have H := H1
        clear H1
        obtain rfl := Option.some.inj H
        go_wp2
        go_ret
        exact ⟨by first | rfl | (simp [errW_none, errW_some] <;> rfl) | (simp [*, errW_none, errW_some] <;> rfl), by repeat (first | (with_reducible first | exact HB.out | apply below_alloc | apply pw_below_drewN | apply below_drew1 | refine below_set ?_ GE286.out | refine below_set ?_ GE309.out) | exact HB.out)⟩
      · replace c35 := Bool.eq_false_iff.mpr c35
        subst c35
        have H1 : (some false) = some r := by rw [if_neg (show ¬ (false = true) by decide)] at H; exact H
        clear H
        have H := H1
        clear H1
        exact absurd (Option.some.inj H) (by rw [hr_.out]; decide)

/-- What is known of a struct of type 81 that came in. -/
def OK81 (x : S81) : Prop := (Lit.int .i64 x.f0).wf = true ∧ (Lit.int .i64 x.f1).wf = true ∧ (Lit.int .i64 x.f2).wf = true
theorem opens81 : Opens Try.prog k81 OK81 81 := by
  have h := opens_struct Try.underlying81 (by kernel_rfl) (opensF_cons (opens_int Try.underlying3 (by kernel_rfl)) rfl (opensF_cons (opens_int Try.underlying3 (by kernel_rfl)) rfl (opensF_one (opens_int Try.underlying3 (by kernel_rfl)) rfl))) (fun x : S81 => (x.f0, x.f1, x.f2)) (fun y : Int × Int × Int => (⟨y.1, y.2.1, y.2.2⟩ : S81)) (fun _ => rfl)
  exact h
/-- What is known of a struct of type 183 that came in. -/
def OK183 (x : S183) : Prop := (Lit.int .i64 x.f0).wf = true ∧ (Lit.int .i64 x.f1).wf = true ∧ True ∧ OK81 x.f3
theorem opens183 : Opens Try.prog k183 OK183 183 := by
  have h := opens_struct Try.underlying183 (by kernel_rfl) (opensF_cons (opens_int Try.underlying3 (by kernel_rfl)) rfl (opensF_cons (opens_int Try.underlying3 (by kernel_rfl)) rfl (opensF_cons (opens_bool Try.underlying4 (by kernel_rfl)) rfl (opensF_one opens81 rfl)))) (fun x : S183 => (x.f0, x.f1, x.f2, x.f3)) (fun y : Int × Int × Bool × S81 => (⟨y.1, y.2.1, y.2.2.1, y.2.2.2⟩ : S183)) (fun _ => rfl)
  exact h
/-- What is known of a struct of type 84 that came in. -/
def OK84 (x : S84) : Prop := (Lit.int .i64 x.f0).wf = true ∧ OK81 x.f1 ∧ (x.f2.length ≤ maxLen ∧ ∀ z0_ ∈ x.f2, OK183 z0_)
theorem opens84 : Opens Try.prog k84 OK84 84 := by
  have h := opens_struct Try.underlying84 (by kernel_rfl) (opensF_cons (opens_int Try.underlying3 (by kernel_rfl)) rfl (opensF_cons opens81 rfl (opensF_one (opens_slice Try.underlying82 (by kernel_rfl) opens183) rfl))) (fun x : S84 => (x.f0, x.f1, x.f2)) (fun y : Int × S81 × (List (S183)) => (⟨y.1, y.2.1, y.2.2⟩ : S84)) (fun _ => rfl)
  exact h
/-- What is known of a struct of type 165 that came in. -/
def OK165 (x : S165) : Prop := (Lit.int .i64 x.f0).wf = true ∧ OK84 x.f1
theorem opens165 : Opens Try.prog k165 OK165 165 := by
  have h := opens_struct Try.underlying165 (by kernel_rfl) (opensF_cons (opens_int Try.underlying3 (by kernel_rfl)) rfl (opensF_one opens84 rfl)) (fun x : S165 => (x.f0, x.f1)) (fun y : Int × S84 => (⟨y.1, y.2⟩ : S165)) (fun _ => rfl)
  exact h
/-- What is known of a struct of type 87 that came in. -/
def OK87 (x : S87) : Prop := OK84 x.f0 ∧ (x.f1.length ≤ maxLen ∧ ∀ z0_ ∈ x.f1, OK165 z0_)
theorem opens87 : Opens Try.prog k87 OK87 87 := by
  have h := opens_struct Try.underlying87 (by kernel_rfl) (opensF_cons opens84 rfl (opensF_one (opens_slice Try.underlying85 (by kernel_rfl) opens165) rfl)) (fun x : S87 => (x.f0, x.f1)) (fun y : S84 × (List (S165)) => (⟨y.1, y.2⟩ : S87)) (fun _ => rfl)
  exact h
/-- THE ONE PURE STATEMENT of laws_FnExactTreeOk: yours. -/
def laws_FnExactTreeOk.Pure : Prop := ∀ (y0 : S87), OK87 y0 → ∃ k, laws_FnExactTreeOk.f k y0.f0.f0 y0.f0.f1.f0 y0.f0.f1.f1 y0.f0.f1.f2 y0.f0.f2 y0.f1 = some true
theorem laws_FnExactTreeOk.walk (P : laws_FnExactTreeOk.Pure) (y0 : S87) (A0_4 : Option Addr) (c0_4 : Nat) (A0_5 : Option Addr) (c0_5 : Nat) (w : World) (hc0_4 : y0.f0.f2.length ≤ c0_4) (hr0_4 : Kd.C k183 w A0_4 y0.f0.f2.length y0.f0.f2) (hc0_5 : y0.f1.length ≤ c0_5) (hr0_5 : Kd.C k165 w A0_5 y0.f1.length y0.f1) (ok0 : OK87 y0) :
    Calls Try.prog 14 #[.agg #[.int .i64 y0.f0.f0, .int .i64 y0.f0.f1.f0, .int .i64 y0.f0.f1.f1, .int .i64 y0.f0.f1.f2, .slice A0_4 y0.f0.f2.length c0_4, .slice A0_5 y0.f1.length c0_5]] w fun e w' => e = .returned (.bool true) ∧ Below w.heap.size w w' := by
  obtain ⟨k, h⟩ := P y0 ok0
  refine (laws_FnExactTreeOk.calls k y0.f0.f0 y0.f0.f1.f0 y0.f0.f1.f1 y0.f0.f1.f2 _ _ y0.f0.f2 _ _ y0.f1 true w hr0_4 hc0_4 hr0_5 hc0_5 ⟨rfl⟩ h).mono ?_
  rintro e w' ⟨rfl, hd⟩
  exact ⟨rfl, hd⟩

end Go.Proofs.Yteecolnemffffaa.PFnExactTreeOk
