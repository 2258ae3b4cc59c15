-- by a program of this session's, over the kit's words
import Derived.Test.YtjeigejjndfkjaaPZFnExactTreeNew
import Derived.Test.YtjeigejjndfkjaaPFnExactTreeNewx0
namespace Go.Proofs.Ytjeigejjndfkjaa.PFnExactTreeNew
open Go.RowKit Go.Proofs.YtjeigejjndfkjaaW.PrintWords Go.Proofs.YtjeigejjndfkjaaW.PrintLast Go.Proofs.YtjeigejjndfkjaaW.PrintMore Go.Proofs.YtjeigejjndfkjaaV Go.Proofs.Ytjeigejjndfkjaa.ZFnExactTreeNew
attribute [local go_sem] max2_int min2_int max_two min_two max_three min_three max_four min_four   -- for this text's walks alone
set_option linter.unusedVariables false
set_option linter.unusedSimpArgs false

/-! ### spec_l13Delta: function 17 -/
def spec_l13Delta.f (a0 : Int) : Option (Bool) := if a0 ≥ 0 then (some (decide (a0 ≤ 10000000))) else (some false)
set_option maxHeartbeats 8000000 in
set_option maxRecDepth 100000 in
theorem spec_l13Delta.calls (a0 : Int) (r : Bool) (w : World) (h : spec_l13Delta.f a0 = some r) :
  Calls Try.prog 17 #[.int .i64 a0] w fun e w' => e = .returned (.bool r) ∧ Drawn0 w w' := by
 have H : (if a0 ≥ 0 then (some (decide (a0 ≤ 10000000))) else (some false)) = some r := h
 clear h
 by_cases c2 : a0 ≥ 0
 ·rw [if_pos c2] at H
  have c2b0 : decide (0 ≤ a0) = true := decide_eq_true c2; clear c2; obtain rfl := Option.some.inj H; go_enter Try.func17, Try.ntmps17
  go_wp2
  go_ret; exact ⟨by first | rfl | (simp; done) | (simp [*]; done), by repeat (first | exact Drawn0.refl _ | apply Drawn0.step)⟩
 ·rw [if_neg c2] at H
  have c2b0 : decide (0 ≤ a0) = false := decide_eq_false c2; clear c2; obtain rfl := Option.some.inj H; go_enter Try.func17, Try.ntmps17
  go_wp2
  go_ret; exact ⟨by first | rfl | (simp; done) | (simp [*]; done), by repeat (first | exact Drawn0.refl _ | apply Drawn0.step)⟩

/-! ### spec_FairNew: function 9 -/
def spec_FairNew.f (a0 : Int) : Option (Int × Int × Int × Int × (List (S48))) := (spec_l13Delta.f a0).bind fun t102 => (if t102 = true then (some (a0, 0, 0, 0, ([] : List (S48)))) else (some (0, 0, 0, 0, ([] : List (S48)))))
set_option maxHeartbeats 8000000 in
set_option maxRecDepth 100000 in
theorem spec_FairNew.calls (a0 : Int) (r1 : Int) (r2 : Int) (r3 : Int) (r4 : Int) (r5 : List (S48)) (w : World) (h : spec_FairNew.f a0 = some (r1, r2, r3, r4, r5)) :
  Calls Try.prog 9 #[.int .i64 a0] w fun e w'=>∃ v4_:Value,e=.returned (.agg #[.int .i64 r1,.int .i64 r2,.int .i64 r3,.int .i64 r4,v4_])∧Kd.R k48 48 w' w.heap.size (fun _=>True) v4_ r5∧Below w.heap.size w w':=by
 have hu26 := Try.underlying26
 have HB := Aside0.mk (Below.refl w.heap.size w)
 have H : ((spec_l13Delta.f a0).bind fun t102 => (if t102 = true then (some (a0, 0, 0, 0, ([] : List (S48)))) else (some (0, 0, 0, 0, ([] : List (S48)))))) = some (r1, r2, r3, r4, r5) := h
 clear h
 obtain ⟨t102, A20, H⟩ := Option.bind_eq_some_iff.mp H
 (try dsimp only at H)
 have A2 := Aside0.mk A20
 clear A20
 have HU3 := Aside0.mk H
 clear H
 go_enter Try.func9, Try.ntmps9
 go_upto_if 5 with (first|((with_reducible refine gate_dst (N:=2) rfl ?_);refine box_event ?hg (N:=2) ?hd (cs:=#[.int .i64 0,.int .i64 0,.int .i64 0,.int .i64 0,.slice none 0 0]) (t:=26) ?hr ?_;(case hd=>rfl);(case hg=>rfl);(case hr=>first|(go_simp;done)|(go_simp;rfl));intro gb101 hg w4 hbox hb;have n_:=an_ (below_step (pB_ HB.out) hb)<|an_ (hbox)<|an_ ((by rw [hg];exact (below_size (pB_ HB.out)):w.heap.size≤gb101))<|Aside0.mk ((by rw [hg];exact (below_size (pB_ HB.out)):w.heap.size≤gb101));clear HB;obtain ⟨HB,BK101,GW101,GE101⟩:=n_;clear hb hbox hg)|((with_reducible refine gate_callee (f:=17) rfl ?_);refine goesL_ (some 4) rfl rfl Try.func17 (by kernel_rfl) rfl #[.int .i64 a0] rfl Z2 ?_;(with_reducible refine (spec_l13Delta.calls a0 t102 _ A2.out).mono ?_);rintro e w' ⟨rfl,⟨nd,rfl⟩⟩;refine ⟨_,rfl,?_⟩))
 have H := HU3.out
 clear HU3
 by_cases c5 : t102 = true
 ·subst c5
  rw [if_pos rfl] at H;simp only [Option.some.injEq,Prod.mk.injEq] at H;obtain ⟨rfl,rfl,rfl,rfl,rfl⟩:=H;obtain ⟨hcz6_0,hcz6_1,hcz6_2,hcz6_3,hcz6_4,hfz6_0,hfz6_1,hfz6_2,hfz6_3,hfz6_4⟩:=cells5 BK101.out
  go_wp2
  refine bodyPost_ret (results_cell_row rfl _ _ gb101 26 #[.int .i64 a0,.int .i64 0,.int .i64 0,.int .i64 0,.slice none 0 0] (0,0) _ rfl (by refine pk_ ?_;refine blk_put (cs:=#[.int .i64 a0,.int .i64 0,.int .i64 0,.int .i64 0,.slice none 0 0]) ?_ 4 _ rfl;refine pk_ ?_;refine blk_put (cs:=#[.int .i64 a0,.int .i64 0,.int .i64 0,.int .i64 0,.slice none 0 0]) ?_ 3 _ rfl;refine pk_ ?_;refine blk_put (cs:=#[.int .i64 a0,.int .i64 0,.int .i64 0,.int .i64 0,.slice none 0 0]) ?_ 2 _ rfl;refine pk_ ?_;refine blk_put (cs:=#[.int .i64 a0,.int .i64 0,.int .i64 0,.int .i64 0,.slice none 0 0]) ?_ 1 _ rfl;refine pk_ ?_;refine blk_put (cs:=#[.int .i64 0,.int .i64 0,.int .i64 0,.int .i64 0,.slice none 0 0]) ?_ 0 _ rfl;refine pk_ ?_;exact BK101.out) Try.underlying26 rfl (by kernel_rfl)) rfl ?_;exact ⟨_,by first|rfl|(simp [errW_none,errW_some] <;> rfl)|(simp [*,errW_none,errW_some] <;> rfl),by first|exact Kd.R_nil _ _ _ _ _|exact Kd.N_nil _ _ _ _ _|exact Kd.V_nil _ _ _ _ _|exact Kd.Q_nil _ _ _ _ _|exact Kd.S_nil _ _ _ _ _,pB_ HB.out⟩
 ·replace c5 := Bool.eq_false_iff.mpr c5
  subst c5;rw [if_neg (show ¬ (false=true) by decide)] at H;simp only [Option.some.injEq,Prod.mk.injEq] at H;obtain ⟨rfl,rfl,rfl,rfl,rfl⟩:=H;obtain ⟨hcz7_0,hcz7_1,hcz7_2,hcz7_3,hcz7_4,hfz7_0,hfz7_1,hfz7_2,hfz7_3,hfz7_4⟩:=cells5 BK101.out
  go_wp2
  refine bodyPost_ret (results_cell_row rfl _ _ gb101 26 #[.int .i64 0,.int .i64 0,.int .i64 0,.int .i64 0,.slice none 0 0] (0,0) _ rfl (by refine pk_ ?_;refine blk_put (cs:=#[.int .i64 0,.int .i64 0,.int .i64 0,.int .i64 0,.slice none 0 0]) ?_ 4 _ rfl;refine pk_ ?_;refine blk_put (cs:=#[.int .i64 0,.int .i64 0,.int .i64 0,.int .i64 0,.slice none 0 0]) ?_ 3 _ rfl;refine pk_ ?_;refine blk_put (cs:=#[.int .i64 0,.int .i64 0,.int .i64 0,.int .i64 0,.slice none 0 0]) ?_ 2 _ rfl;refine pk_ ?_;refine blk_put (cs:=#[.int .i64 0,.int .i64 0,.int .i64 0,.int .i64 0,.slice none 0 0]) ?_ 1 _ rfl;refine pk_ ?_;refine blk_put (cs:=#[.int .i64 0,.int .i64 0,.int .i64 0,.int .i64 0,.slice none 0 0]) ?_ 0 _ rfl;refine pk_ ?_;exact BK101.out) Try.underlying26 rfl (by kernel_rfl)) rfl ?_;exact ⟨_,by first|rfl|(simp [errW_none,errW_some] <;> rfl)|(simp [*,errW_none,errW_some] <;> rfl),by first|exact Kd.R_nil _ _ _ _ _|exact Kd.N_nil _ _ _ _ _|exact Kd.V_nil _ _ _ _ _|exact Kd.Q_nil _ _ _ _ _|exact Kd.S_nil _ _ _ _ _,pB_ HB.out⟩

/-! ### spec_TreeNew: function 4 -/
def spec_TreeNew.f (a0 : Int) : Option (Int × Int × Int × Int × (List (S48)) × (List (S43))) := (spec_FairNew.f a0).bind fun bt104 => (some (bt104.1, bt104.2.1, bt104.2.2.1, bt104.2.2.2.1, bt104.2.2.2.2, ([] : List (S43))))
set_option maxHeartbeats 8000000 in
set_option maxRecDepth 100000 in
theorem spec_TreeNew.calls (a0 : Int) (r1 : Int) (r2 : Int) (r3 : Int) (r4 : Int) (r5 : List (S48)) (r6 : List (S43)) (w : World) (h : spec_TreeNew.f a0 = some (r1, r2, r3, r4, r5, r6)) :
  Calls Try.prog 4 #[.int .i64 a0] w fun e w'=>∃ v4_ v5_:Value,e=.returned (.agg #[.int .i64 r1,.int .i64 r2,.int .i64 r3,.int .i64 r4,v4_,v5_])∧Kd.R k48 48 w' w.heap.size (fun _=>True) v4_ r5∧Kd.S k43 43 w' w.heap.size (fun k_=>some k_≠(v4_:Value).ownBlock) v5_ r6∧Below w.heap.size w w':=by
 have hu29 := Try.underlying29
 have HB := Aside0.mk (Below.refl w.heap.size w)
 have H : ((spec_FairNew.f a0).bind fun bt104 => (some (bt104.1, bt104.2.1, bt104.2.2.1, bt104.2.2.2.1, bt104.2.2.2.2, ([] : List (S43))))) = some (r1, r2, r3, r4, r5, r6) := h
 clear h
 obtain ⟨⟨t104, t105, t106, t107, t108⟩, A20, H⟩ := Option.bind_eq_some_iff.mp H
 (try dsimp only at H)
 have A2 := Aside0.mk A20
 clear A20
 simp only [Option.some.injEq, Prod.mk.injEq] at H
 obtain ⟨rfl, rfl, rfl, rfl, rfl, rfl⟩ := H
 go_enter Try.func4, Try.ntmps4
 go_wp2_with (first|((with_reducible refine gate_dst (N:=2) rfl ?_);refine box_event ?hg (N:=2) ?hd (cs:=#[.int .i64 0,.int .i64 0,.int .i64 0,.int .i64 0,.slice none 0 0,.slice none 0 0]) (t:=29) ?hr ?_;(case hd=>rfl);(case hg=>rfl);(case hr=>first|(go_simp;done)|(go_simp;rfl));intro gb103 hg w3 hbox hb;have n_:=an_ (below_step (pB_ HB.out) hb)<|an_ (hbox)<|an_ ((by rw [hg];exact (below_size (pB_ HB.out)):w.heap.size≤gb103))<|Aside0.mk ((by rw [hg];exact (below_size (pB_ HB.out)):w.heap.size≤gb103));clear HB;obtain ⟨HB,BK103,GW103,GE103⟩:=n_;clear hb hbox hg)|((with_reducible refine gate_callee (f:=9) rfl ?_);refine goesL_ (some 4) rfl rfl Try.func9 (by kernel_rfl) rfl #[.int .i64 a0] rfl Z2 ?_;(with_reducible refine (spec_FairNew.calls a0 t104 t105 t106 t107 t108 _ A2.out).mono ?_);rintro e w4 ⟨v109,rfl,ho0,hb⟩;refine ⟨_,rfl,?_⟩;have n_:=an_ (Kd.R_lower ho0 (below_size (pB_ HB.out)))<|an_ (blk_below (pk_ BK103.out) hb)<|Aside0.mk (below_step (pB_ HB.out) hb);clear BK103 HB;obtain ⟨HO110,BK103,HB⟩:=n_;(try clear hb);(try clear hb2);(try clear hk);(try clear hi);(try clear ho0);obtain ⟨Ao5,co5,eo5⟩:=Kd.R_slice HO110.out;subst eo5;have hcz6_0:w4.cell? ⟨gb103,0,none⟩=some (.int .i64 0):=(blk_cell BK103.out 0).trans rfl;have hcz6_1:w4.cell? ⟨gb103,1,none⟩=some (.int .i64 0):=(blk_cell BK103.out 1).trans rfl;have hcz6_2:w4.cell? ⟨gb103,2,none⟩=some (.int .i64 0):=(blk_cell BK103.out 2).trans rfl;have hcz6_3:w4.cell? ⟨gb103,3,none⟩=some (.int .i64 0):=(blk_cell BK103.out 3).trans rfl;have hcz6_4:w4.cell? ⟨gb103,4,none⟩=some (.slice none 0 0):=(blk_cell BK103.out 4).trans rfl;have hcz6_5:w4.cell? ⟨gb103,5,none⟩=some (.slice none 0 0):=(blk_cell BK103.out 5).trans rfl;have hfz6_0:=blk_frozen BK103.out 0;have hfz6_1:=blk_frozen BK103.out 1;have hfz6_2:=blk_frozen BK103.out 2;have hfz6_3:=blk_frozen BK103.out 3;have hfz6_4:=blk_frozen BK103.out 4;have hfz6_5:=blk_frozen BK103.out 5))
 refine bodyPost_ret (results_cell_row rfl _ _ gb103 29 #[.int .i64 t104,.int .i64 t105,.int .i64 t106,.int .i64 t107,.slice Ao5 t108.length co5,.slice none 0 0] (0,0) _ rfl (by refine pk_ ?_;refine blk_put (cs:=#[.int .i64 t104,.int .i64 t105,.int .i64 t106,.int .i64 t107,.slice Ao5 t108.length co5,.slice none 0 0]) ?_ 5 _ rfl;refine pk_ ?_;refine blk_put (cs:=#[.int .i64 t104,.int .i64 t105,.int .i64 t106,.int .i64 t107,.slice none 0 0,.slice none 0 0]) ?_ 4 _ rfl;refine pk_ ?_;refine blk_put (cs:=#[.int .i64 t104,.int .i64 t105,.int .i64 t106,.int .i64 0,.slice none 0 0,.slice none 0 0]) ?_ 3 _ rfl;refine pk_ ?_;refine blk_put (cs:=#[.int .i64 t104,.int .i64 t105,.int .i64 0,.int .i64 0,.slice none 0 0,.slice none 0 0]) ?_ 2 _ rfl;refine pk_ ?_;refine blk_put (cs:=#[.int .i64 t104,.int .i64 0,.int .i64 0,.int .i64 0,.slice none 0 0,.slice none 0 0]) ?_ 1 _ rfl;refine pk_ ?_;refine blk_put (cs:=#[.int .i64 0,.int .i64 0,.int .i64 0,.int .i64 0,.slice none 0 0,.slice none 0 0]) ?_ 0 _ rfl;refine pk_ ?_;exact BK103.out) Try.underlying29 rfl (by kernel_rfl)) rfl ?_
 exact ⟨_,_,by first|rfl|(simp [errW_none,errW_some] <;> rfl)|(simp [*,errW_none,errW_some] <;> rfl),by (with_reducible repeat (first|apply Kd.R_alloc|apply Kd.R_drewN|apply Kd.R_drew));exact Kd.R_mono (fr_ (fr_ (fr_ (fr_ (fr_ (fr_ (Kd.R_types HO110.out BK103.out (by decide)) 0 (.int .i64 t104)) 1 (.int .i64 t105)) 2 (.int .i64 t106)) 3 (.int .i64 t107)) 4 (.slice Ao5 t108.length co5)) 5 (.slice none 0 0)) (fun _ hk=>trivial),by first|exact Kd.S_nil _ _ _ _ _|exact Kd.N_nil _ _ _ _ _|exact Kd.V_nil _ _ _ _ _|exact Kd.Q_nil _ _ _ _ _|exact Kd.R_nil _ _ _ _ _,pB_ HB.out⟩

/-! ### impl_within: function 24 -/
def impl_within.f (a0 : Int) (a1 : Int) (a2 : Int) : Option (Bool) := if a0 ≥ a1 then (some (decide (a0 ≤ a2))) else (some false)
set_option maxHeartbeats 8000000 in
set_option maxRecDepth 100000 in
theorem impl_within.calls (a0 : Int) (a1 : Int) (a2 : Int) (r : Bool) (w : World) (h : impl_within.f a0 a1 a2 = some r) :
  Calls Try.prog 24 #[.int .i64 a0, .int .i64 a1, .int .i64 a2] w fun e w' => e = .returned (.bool r) ∧ Drawn0 w w' := by
 have H : (if a0 ≥ a1 then (some (decide (a0 ≤ a2))) else (some false)) = some r := h
 clear h
 by_cases c4 : a0 ≥ a1
 ·rw [if_pos c4] at H
  have c4b0 : decide (a1 ≤ a0) = true := decide_eq_true c4; clear c4; obtain rfl := Option.some.inj H; go_enter Try.func24, Try.ntmps24
  go_wp2
  go_ret; exact ⟨by first | rfl | (simp; done) | (simp [*]; done), by repeat (first | exact Drawn0.refl _ | apply Drawn0.step)⟩
 ·rw [if_neg c4] at H
  have c4b0 : decide (a1 ≤ a0) = false := decide_eq_false c4; clear c4; obtain rfl := Option.some.inj H; go_enter Try.func24, Try.ntmps24
  go_wp2
  go_ret; exact ⟨by first | rfl | (simp; done) | (simp [*]; done), by repeat (first | exact Drawn0.refl _ | apply Drawn0.step)⟩

/-! ### impl_isDelta: function 18 -/
def impl_isDelta.f (a0 : Int) : Option (Bool) := (impl_within.f a0 0 10000000).bind fun t111 => (some t111)
set_option maxHeartbeats 8000000 in
set_option maxRecDepth 100000 in
theorem impl_isDelta.calls (a0 : Int) (r : Bool) (w : World) (h : impl_isDelta.f a0 = some r) :
  Calls Try.prog 18 #[.int .i64 a0] w fun e w' => e = .returned (.bool r) ∧ Drawn0 w w' := by
 have H : ((impl_within.f a0 0 10000000).bind fun t111 => (some t111)) = some r := h
 clear h
 obtain ⟨t111, A20, H⟩ := Option.bind_eq_some_iff.mp H
 (try dsimp only at H)
 have A2 := Aside0.mk A20
 clear A20
 obtain rfl := Option.some.inj H
 go_enter Try.func18, Try.ntmps18
 go_wp2_with (first|((with_reducible refine gate_callee (f:=24) rfl ?_);refine goesL_ (some 4) rfl rfl Try.func24 (by kernel_rfl) rfl #[.int .i64 a0,.int .i64 0,.int .i64 10000000] rfl Z2 ?_;(with_reducible refine (impl_within.calls a0 0 10000000 t111 _ A2.out).mono ?_);rintro e w' ⟨rfl,⟨nd,rfl⟩⟩;refine ⟨_,rfl,?_⟩))
 go_ret
 exact ⟨by first | rfl | (simp; done) | (simp [*]; done), by repeat (first | exact Drawn0.refl _ | apply Drawn0.step)⟩

/-! ### impl_FairNew: function 10 -/
def impl_FairNew.f (a0 : Int) : Option (Int × Int × Int × Int × (List (S48))) := (impl_isDelta.f a0).bind fun t113 => (if t113 = true then (some (a0, 0, 0, 0, ([] : List (S48)))) else (some (0, 0, 0, 0, ([] : List (S48)))))
set_option maxHeartbeats 8000000 in
set_option maxRecDepth 100000 in
theorem impl_FairNew.calls (a0 : Int) (r1 : Int) (r2 : Int) (r3 : Int) (r4 : Int) (r5 : List (S48)) (w : World) (h : impl_FairNew.f a0 = some (r1, r2, r3, r4, r5)) :
  Calls Try.prog 10 #[.int .i64 a0] w fun e w'=>∃ v4_:Value,e=.returned (.agg #[.int .i64 r1,.int .i64 r2,.int .i64 r3,.int .i64 r4,v4_])∧Kd.R k48 48 w' w.heap.size (fun _=>True) v4_ r5∧Below w.heap.size w w':=by
 have hu26 := Try.underlying26
 have HB := Aside0.mk (Below.refl w.heap.size w)
 have H : ((impl_isDelta.f a0).bind fun t113 => (if t113 = true then (some (a0, 0, 0, 0, ([] : List (S48)))) else (some (0, 0, 0, 0, ([] : List (S48)))))) = some (r1, r2, r3, r4, r5) := h
 clear h
 obtain ⟨t113, A20, H⟩ := Option.bind_eq_some_iff.mp H
 (try dsimp only at H)
 have A2 := Aside0.mk A20
 clear A20
 have HU3 := Aside0.mk H
 clear H
 go_enter Try.func10, Try.ntmps10
 go_upto_if 5 with (first|((with_reducible refine gate_dst (N:=2) rfl ?_);refine box_event ?hg (N:=2) ?hd (cs:=#[.int .i64 0,.int .i64 0,.int .i64 0,.int .i64 0,.slice none 0 0]) (t:=26) ?hr ?_;(case hd=>rfl);(case hg=>rfl);(case hr=>first|(go_simp;done)|(go_simp;rfl));intro gb112 hg w4 hbox hb;have n_:=an_ (below_step (pB_ HB.out) hb)<|an_ (hbox)<|an_ ((by rw [hg];exact (below_size (pB_ HB.out)):w.heap.size≤gb112))<|Aside0.mk ((by rw [hg];exact (below_size (pB_ HB.out)):w.heap.size≤gb112));clear HB;obtain ⟨HB,BK112,GW112,GE112⟩:=n_;clear hb hbox hg)|((with_reducible refine gate_callee (f:=18) rfl ?_);refine goesL_ (some 4) rfl rfl Try.func18 (by kernel_rfl) rfl #[.int .i64 a0] rfl Z2 ?_;(with_reducible refine (impl_isDelta.calls a0 t113 _ A2.out).mono ?_);rintro e w' ⟨rfl,⟨nd,rfl⟩⟩;refine ⟨_,rfl,?_⟩))
 have H := HU3.out
 clear HU3
 by_cases c5 : t113 = true
 ·subst c5
  rw [if_pos rfl] at H;simp only [Option.some.injEq,Prod.mk.injEq] at H;obtain ⟨rfl,rfl,rfl,rfl,rfl⟩:=H;obtain ⟨hcz6_0,hcz6_1,hcz6_2,hcz6_3,hcz6_4,hfz6_0,hfz6_1,hfz6_2,hfz6_3,hfz6_4⟩:=cells5 BK112.out
  go_wp2
  refine bodyPost_ret (results_cell_row rfl _ _ gb112 26 #[.int .i64 a0,.int .i64 0,.int .i64 0,.int .i64 0,.slice none 0 0] (0,0) _ rfl (by refine pk_ ?_;refine blk_put (cs:=#[.int .i64 a0,.int .i64 0,.int .i64 0,.int .i64 0,.slice none 0 0]) ?_ 4 _ rfl;refine pk_ ?_;refine blk_put (cs:=#[.int .i64 a0,.int .i64 0,.int .i64 0,.int .i64 0,.slice none 0 0]) ?_ 3 _ rfl;refine pk_ ?_;refine blk_put (cs:=#[.int .i64 a0,.int .i64 0,.int .i64 0,.int .i64 0,.slice none 0 0]) ?_ 2 _ rfl;refine pk_ ?_;refine blk_put (cs:=#[.int .i64 a0,.int .i64 0,.int .i64 0,.int .i64 0,.slice none 0 0]) ?_ 1 _ rfl;refine pk_ ?_;refine blk_put (cs:=#[.int .i64 0,.int .i64 0,.int .i64 0,.int .i64 0,.slice none 0 0]) ?_ 0 _ rfl;refine pk_ ?_;exact BK112.out) Try.underlying26 rfl (by kernel_rfl)) rfl ?_;exact ⟨_,by first|rfl|(simp [errW_none,errW_some] <;> rfl)|(simp [*,errW_none,errW_some] <;> rfl),by first|exact Kd.R_nil _ _ _ _ _|exact Kd.N_nil _ _ _ _ _|exact Kd.V_nil _ _ _ _ _|exact Kd.Q_nil _ _ _ _ _|exact Kd.S_nil _ _ _ _ _,pB_ HB.out⟩
 ·replace c5 := Bool.eq_false_iff.mpr c5
  subst c5;rw [if_neg (show ¬ (false=true) by decide)] at H;simp only [Option.some.injEq,Prod.mk.injEq] at H;obtain ⟨rfl,rfl,rfl,rfl,rfl⟩:=H;obtain ⟨hcz7_0,hcz7_1,hcz7_2,hcz7_3,hcz7_4,hfz7_0,hfz7_1,hfz7_2,hfz7_3,hfz7_4⟩:=cells5 BK112.out
  go_wp2
  refine bodyPost_ret (results_cell_row rfl _ _ gb112 26 #[.int .i64 0,.int .i64 0,.int .i64 0,.int .i64 0,.slice none 0 0] (0,0) _ rfl (by refine pk_ ?_;refine blk_put (cs:=#[.int .i64 0,.int .i64 0,.int .i64 0,.int .i64 0,.slice none 0 0]) ?_ 4 _ rfl;refine pk_ ?_;refine blk_put (cs:=#[.int .i64 0,.int .i64 0,.int .i64 0,.int .i64 0,.slice none 0 0]) ?_ 3 _ rfl;refine pk_ ?_;refine blk_put (cs:=#[.int .i64 0,.int .i64 0,.int .i64 0,.int .i64 0,.slice none 0 0]) ?_ 2 _ rfl;refine pk_ ?_;refine blk_put (cs:=#[.int .i64 0,.int .i64 0,.int .i64 0,.int .i64 0,.slice none 0 0]) ?_ 1 _ rfl;refine pk_ ?_;refine blk_put (cs:=#[.int .i64 0,.int .i64 0,.int .i64 0,.int .i64 0,.slice none 0 0]) ?_ 0 _ rfl;refine pk_ ?_;exact BK112.out) Try.underlying26 rfl (by kernel_rfl)) rfl ?_;exact ⟨_,by first|rfl|(simp [errW_none,errW_some] <;> rfl)|(simp [*,errW_none,errW_some] <;> rfl),by first|exact Kd.R_nil _ _ _ _ _|exact Kd.N_nil _ _ _ _ _|exact Kd.V_nil _ _ _ _ _|exact Kd.Q_nil _ _ _ _ _|exact Kd.S_nil _ _ _ _ _,pB_ HB.out⟩

/-! ### impl_TreeNew: function 5 -/
def impl_TreeNew.f (a0 : Int) : Option (Int × Int × Int × Int × (List (S48)) × (List (S43))) := (impl_FairNew.f a0).bind fun bt115 => (some (bt115.1, bt115.2.1, bt115.2.2.1, bt115.2.2.2.1, bt115.2.2.2.2, ([] : List (S43))))
set_option maxHeartbeats 8000000 in
set_option maxRecDepth 100000 in
theorem impl_TreeNew.calls (a0 : Int) (r1 : Int) (r2 : Int) (r3 : Int) (r4 : Int) (r5 : List (S48)) (r6 : List (S43)) (w : World) (h : impl_TreeNew.f a0 = some (r1, r2, r3, r4, r5, r6)) :
  Calls Try.prog 5 #[.int .i64 a0] w fun e w'=>∃ v4_ v5_:Value,e=.returned (.agg #[.int .i64 r1,.int .i64 r2,.int .i64 r3,.int .i64 r4,v4_,v5_])∧Kd.R k48 48 w' w.heap.size (fun _=>True) v4_ r5∧Kd.S k43 43 w' w.heap.size (fun k_=>some k_≠(v4_:Value).ownBlock) v5_ r6∧Below w.heap.size w w':=by
 have hu29 := Try.underlying29
 have HB := Aside0.mk (Below.refl w.heap.size w)
 have H : ((impl_FairNew.f a0).bind fun bt115 => (some (bt115.1, bt115.2.1, bt115.2.2.1, bt115.2.2.2.1, bt115.2.2.2.2, ([] : List (S43))))) = some (r1, r2, r3, r4, r5, r6) := h
 clear h
 obtain ⟨⟨t115, t116, t117, t118, t119⟩, A20, H⟩ := Option.bind_eq_some_iff.mp H
 (try dsimp only at H)
 have A2 := Aside0.mk A20
 clear A20
 simp only [Option.some.injEq, Prod.mk.injEq] at H
 obtain ⟨rfl, rfl, rfl, rfl, rfl, rfl⟩ := H
 go_enter Try.func5, Try.ntmps5
 go_wp2_with (first|((with_reducible refine gate_dst (N:=2) rfl ?_);refine box_event ?hg (N:=2) ?hd (cs:=#[.int .i64 0,.int .i64 0,.int .i64 0,.int .i64 0,.slice none 0 0,.slice none 0 0]) (t:=29) ?hr ?_;(case hd=>rfl);(case hg=>rfl);(case hr=>first|(go_simp;done)|(go_simp;rfl));intro gb114 hg w3 hbox hb;have n_:=an_ (below_step (pB_ HB.out) hb)<|an_ (hbox)<|an_ ((by rw [hg];exact (below_size (pB_ HB.out)):w.heap.size≤gb114))<|Aside0.mk ((by rw [hg];exact (below_size (pB_ HB.out)):w.heap.size≤gb114));clear HB;obtain ⟨HB,BK114,GW114,GE114⟩:=n_;clear hb hbox hg)|((with_reducible refine gate_callee (f:=10) rfl ?_);refine goesL_ (some 4) rfl rfl Try.func10 (by kernel_rfl) rfl #[.int .i64 a0] rfl Z2 ?_;(with_reducible refine (impl_FairNew.calls a0 t115 t116 t117 t118 t119 _ A2.out).mono ?_);rintro e w4 ⟨v120,rfl,ho0,hb⟩;refine ⟨_,rfl,?_⟩;have n_:=an_ (Kd.R_lower ho0 (below_size (pB_ HB.out)))<|an_ (blk_below (pk_ BK114.out) hb)<|Aside0.mk (below_step (pB_ HB.out) hb);clear BK114 HB;obtain ⟨HO121,BK114,HB⟩:=n_;(try clear hb);(try clear hb2);(try clear hk);(try clear hi);(try clear ho0);obtain ⟨Ao5,co5,eo5⟩:=Kd.R_slice HO121.out;subst eo5;have hcz6_0:w4.cell? ⟨gb114,0,none⟩=some (.int .i64 0):=(blk_cell BK114.out 0).trans rfl;have hcz6_1:w4.cell? ⟨gb114,1,none⟩=some (.int .i64 0):=(blk_cell BK114.out 1).trans rfl;have hcz6_2:w4.cell? ⟨gb114,2,none⟩=some (.int .i64 0):=(blk_cell BK114.out 2).trans rfl;have hcz6_3:w4.cell? ⟨gb114,3,none⟩=some (.int .i64 0):=(blk_cell BK114.out 3).trans rfl;have hcz6_4:w4.cell? ⟨gb114,4,none⟩=some (.slice none 0 0):=(blk_cell BK114.out 4).trans rfl;have hcz6_5:w4.cell? ⟨gb114,5,none⟩=some (.slice none 0 0):=(blk_cell BK114.out 5).trans rfl;have hfz6_0:=blk_frozen BK114.out 0;have hfz6_1:=blk_frozen BK114.out 1;have hfz6_2:=blk_frozen BK114.out 2;have hfz6_3:=blk_frozen BK114.out 3;have hfz6_4:=blk_frozen BK114.out 4;have hfz6_5:=blk_frozen BK114.out 5))
 refine bodyPost_ret (results_cell_row rfl _ _ gb114 29 #[.int .i64 t115,.int .i64 t116,.int .i64 t117,.int .i64 t118,.slice Ao5 t119.length co5,.slice none 0 0] (0,0) _ rfl (by refine pk_ ?_;refine blk_put (cs:=#[.int .i64 t115,.int .i64 t116,.int .i64 t117,.int .i64 t118,.slice Ao5 t119.length co5,.slice none 0 0]) ?_ 5 _ rfl;refine pk_ ?_;refine blk_put (cs:=#[.int .i64 t115,.int .i64 t116,.int .i64 t117,.int .i64 t118,.slice none 0 0,.slice none 0 0]) ?_ 4 _ rfl;refine pk_ ?_;refine blk_put (cs:=#[.int .i64 t115,.int .i64 t116,.int .i64 t117,.int .i64 0,.slice none 0 0,.slice none 0 0]) ?_ 3 _ rfl;refine pk_ ?_;refine blk_put (cs:=#[.int .i64 t115,.int .i64 t116,.int .i64 0,.int .i64 0,.slice none 0 0,.slice none 0 0]) ?_ 2 _ rfl;refine pk_ ?_;refine blk_put (cs:=#[.int .i64 t115,.int .i64 0,.int .i64 0,.int .i64 0,.slice none 0 0,.slice none 0 0]) ?_ 1 _ rfl;refine pk_ ?_;refine blk_put (cs:=#[.int .i64 0,.int .i64 0,.int .i64 0,.int .i64 0,.slice none 0 0,.slice none 0 0]) ?_ 0 _ rfl;refine pk_ ?_;exact BK114.out) Try.underlying29 rfl (by kernel_rfl)) rfl ?_
 exact ⟨_,_,by first|rfl|(simp [errW_none,errW_some] <;> rfl)|(simp [*,errW_none,errW_some] <;> rfl),by (with_reducible repeat (first|apply Kd.R_alloc|apply Kd.R_drewN|apply Kd.R_drew));exact Kd.R_mono (fr_ (fr_ (fr_ (fr_ (fr_ (fr_ (Kd.R_types HO121.out BK114.out (by decide)) 0 (.int .i64 t115)) 1 (.int .i64 t116)) 2 (.int .i64 t117)) 3 (.int .i64 t118)) 4 (.slice Ao5 t119.length co5)) 5 (.slice none 0 0)) (fun _ hk=>trivial),by first|exact Kd.S_nil _ _ _ _ _|exact Kd.N_nil _ _ _ _ _|exact Kd.V_nil _ _ _ _ _|exact Kd.Q_nil _ _ _ _ _|exact Kd.R_nil _ _ _ _ _,pB_ HB.out⟩

/-! ### laws_eqVec: function 19 -/
def laws_eqVec.f (a0_0 : Int) (a0_1 : Int) (a0_2 : Int) (a1_0 : Int) (a1_1 : Int) (a1_2 : Int) : Option (Bool) := if a0_0 = a1_0 then (if a0_1 = a1_1 then (if a0_2 = a1_2 then (some true) else (some false)) else (some false)) else (some false)
set_option maxHeartbeats 8000000 in
set_option maxRecDepth 100000 in
theorem laws_eqVec.calls (a0_0 : Int) (a0_1 : Int) (a0_2 : Int) (a1_0 : Int) (a1_1 : Int) (a1_2 : Int) (r : Bool) (w : World) (h : laws_eqVec.f a0_0 a0_1 a0_2 a1_0 a1_1 a1_2 = some r) :
  Calls Try.prog 19 #[.agg #[.int .i64 a0_0,.int .i64 a0_1,.int .i64 a0_2],.agg #[.int .i64 a1_0,.int .i64 a1_1,.int .i64 a1_2]] w fun e w'=>e=.returned (.bool r)∧Below w.heap.size w w':=by
 have hu23 := Try.underlying23
 have HB := Aside0.mk (Below.refl w.heap.size w)
 have H : (if a0_0 = a1_0 then (if a0_1 = a1_1 then (if a0_2 = a1_2 then (some true) else (some false)) else (some false)) else (some false)) = some r := h
 clear h
 have HU3 := Aside0.mk H
 clear H
 go_enter Try.func19, Try.ntmps19
 go_upto_if 9 with (first|((with_reducible refine gate_dst (N:=2) rfl ?_);refine box_event ?hg (N:=2) ?hd (cs:=#[.int .i64 a0_0,.int .i64 a0_1,.int .i64 a0_2]) (t:=23) ?hr ?_;(case hd=>rfl);(case hg=>rfl);(case hr=>first|(go_simp;done)|(go_simp;rfl));intro gb122 hg w4 hbox hb;have n_:=an_ (below_step (pB_ HB.out) hb)<|an_ (hbox)<|an_ ((by rw [hg];exact (below_size (pB_ HB.out)):w.heap.size≤gb122))<|Aside0.mk ((by rw [hg];exact (below_size (pB_ HB.out)):w.heap.size≤gb122));clear HB;obtain ⟨HB,BK122,GW122,GE122⟩:=n_;clear hb hbox hg)|((with_reducible refine gate_dst (N:=3) rfl ?_);refine box_event ?hg (N:=3) ?hd (cs:=#[.int .i64 a1_0,.int .i64 a1_1,.int .i64 a1_2]) (t:=23) ?hr ?_;(case hd=>rfl);(case hg=>rfl);(case hr=>first|(go_simp;done)|(go_simp;rfl));intro gb123 hg w5 hbox hb;have n_:=an_ (blk_below (pk_ BK122.out) hb)<|an_ (below_step (pB_ HB.out) hb)<|an_ (hbox)<|an_ ((by rw [hg];exact (below_size (pB_ HB.out)):w.heap.size≤gb123))<|an_ ((by rw [hg];exact (below_size (pB_ HB.out)):w.heap.size≤gb123))<|an_ ((by rw [hg];exact Nat.ne_of_lt (blk_lt (pk_ BK122.out)):gb122≠gb123))<|Aside0.mk ((by rw [hg];exact Nat.ne_of_gt (blk_lt (pk_ BK122.out)):gb123≠gb122));clear BK122 HB;obtain ⟨BK122,HB,BK123,GW123,GE123,NB122_123,NB123_122⟩:=n_;clear hb hbox hg;(try have hnb6:=NB122_123.out);(try have hnc6:=NB123_122.out);have hcz7_0:w5.cell? ⟨gb122,0,none⟩=some (.int .i64 a0_0):=(blk_cell BK122.out 0).trans rfl;have hcz7_1:w5.cell? ⟨gb122,1,none⟩=some (.int .i64 a0_1):=(blk_cell BK122.out 1).trans rfl;have hcz7_2:w5.cell? ⟨gb122,2,none⟩=some (.int .i64 a0_2):=(blk_cell BK122.out 2).trans rfl;have hfz7_0:=blk_frozen BK122.out 0;have hfz7_1:=blk_frozen BK122.out 1;have hfz7_2:=blk_frozen BK122.out 2;have hcz8_0:w5.cell? ⟨gb123,0,none⟩=some (.int .i64 a1_0):=(blk_cell BK123.out 0).trans rfl;have hcz8_1:w5.cell? ⟨gb123,1,none⟩=some (.int .i64 a1_1):=(blk_cell BK123.out 1).trans rfl;have hcz8_2:w5.cell? ⟨gb123,2,none⟩=some (.int .i64 a1_2):=(blk_cell BK123.out 2).trans rfl;have hfz8_0:=blk_frozen BK123.out 0;have hfz8_1:=blk_frozen BK123.out 1;have hfz8_2:=blk_frozen BK123.out 2))
 have H := HU3.out
 clear HU3
 by_cases c9 : a0_0 = a1_0
 ·rw [if_pos c9] at H
  have c9b0:(a0_0 == a1_0)=true:=beq_iff_eq.mpr c9;have c9b1:(a0_0 != a1_0)=false:=bne_eq_false_iff_eq.mpr c9;clear c9;(first|rw [c9b0]|(simp only [i64_w,i32_w];rw [c9b0])|(have cz_:=c9b0;simp only [bne,gt_iff_lt,Int.natCast_pos] at cz_;first|rw [cz_]|(simp only [i64_w,i32_w];rw [cz_]))|skip)
  by_cases c10 : a0_1 = a1_1
  ·rw [if_pos c10] at H
   have c10b0 : (a0_1 == a1_1) = true := beq_iff_eq.mpr c10; have c10b1 : (a0_1 != a1_1) = false := bne_eq_false_iff_eq.mpr c10; clear c10
   by_cases c11 : a0_2 = a1_2
   ·rw [if_pos c11] at H
    have c11b0:(a0_2 == a1_2)=true:=beq_iff_eq.mpr c11;have c11b1:(a0_2 != a1_2)=false:=bne_eq_false_iff_eq.mpr c11;clear c11;obtain rfl:=Option.some.inj H;(try have hnb12:=NB122_123.out);(try have hnc12:=NB123_122.out);obtain ⟨hcz13_0,hcz13_1,hcz13_2,hfz13_0,hfz13_1,hfz13_2⟩:=cells3 BK122.out;obtain ⟨hcz14_0,hcz14_1,hcz14_2,hfz14_0,hfz14_1,hfz14_2⟩:=cells3 BK123.out
    go_wp2
    go_ret; exact ⟨by first | rfl | (simp [errW_none, errW_some] <;> rfl) | (simp [*, errW_none, errW_some] <;> rfl), pB_ HB.out⟩
   ·rw [if_neg c11] at H
    have c11b0:(a0_2 == a1_2)=false:=beq_eq_false_iff_ne.mpr c11;have c11b1:(a0_2 != a1_2)=true:=bne_iff_ne.mpr c11;obtain rfl:=Option.some.inj H;(try have hnb15:=NB122_123.out);(try have hnc15:=NB123_122.out);obtain ⟨hcz16_0,hcz16_1,hcz16_2,hfz16_0,hfz16_1,hfz16_2⟩:=cells3 BK122.out;obtain ⟨hcz17_0,hcz17_1,hcz17_2,hfz17_0,hfz17_1,hfz17_2⟩:=cells3 BK123.out
    go_wp2
    go_ret; exact ⟨by first | rfl | (simp [errW_none, errW_some] <;> rfl) | (simp [*, errW_none, errW_some] <;> rfl), pB_ HB.out⟩
  ·rw [if_neg c10] at H
   have c10b0:(a0_1 == a1_1)=false:=beq_eq_false_iff_ne.mpr c10;have c10b1:(a0_1 != a1_1)=true:=bne_iff_ne.mpr c10;obtain rfl:=Option.some.inj H;(try have hnb18:=NB122_123.out);(try have hnc18:=NB123_122.out);obtain ⟨hcz19_0,hcz19_1,hcz19_2,hfz19_0,hfz19_1,hfz19_2⟩:=cells3 BK122.out;obtain ⟨hcz20_0,hcz20_1,hcz20_2,hfz20_0,hfz20_1,hfz20_2⟩:=cells3 BK123.out
   go_wp2
   go_ret; exact ⟨by first | rfl | (simp [errW_none, errW_some] <;> rfl) | (simp [*, errW_none, errW_some] <;> rfl), pB_ HB.out⟩
 ·rw [if_neg c9] at H
  have c9b0:(a0_0 == a1_0)=false:=beq_eq_false_iff_ne.mpr c9;have c9b1:(a0_0 != a1_0)=true:=bne_iff_ne.mpr c9;(first|rw [c9b0]|(simp only [i64_w,i32_w];rw [c9b0])|(have cz_:=c9b0;simp only [bne,gt_iff_lt,Int.natCast_pos] at cz_;first|rw [cz_]|(simp only [i64_w,i32_w];rw [cz_]))|skip);obtain rfl:=Option.some.inj H
  go_wp2
  go_ret; exact ⟨by first | rfl | (simp [errW_none, errW_some] <;> rfl) | (simp [*, errW_none, errW_some] <;> rfl), pB_ HB.out⟩

/-! ### laws_eqKid: function 25 -/
def laws_eqKid.f (a0_0 : Int) (a0_1 : Int) (a0_2 : Bool) (a0_3 : Int) (a0_4 : Int) (a0_5 : Int) (a1_0 : Int) (a1_1 : Int) (a1_2 : Bool) (a1_3 : Int) (a1_4 : Int) (a1_5 : Int) : Option (Bool) := if a0_0 = a1_0 then (if a0_1 = a1_1 then (if (a0_2 != a1_2) = true then (some false) else ((laws_eqVec.f a0_3 a0_4 a0_5 a1_3 a1_4 a1_5).bind fun t126 => (if t126 = true then (some true) else (some false)))) else (some false)) else (some false)
set_option maxHeartbeats 8000000 in
set_option maxRecDepth 100000 in
theorem laws_eqKid.calls (a0_0 : Int) (a0_1 : Int) (a0_2 : Bool) (a0_3 : Int) (a0_4 : Int) (a0_5 : Int) (a1_0 : Int) (a1_1 : Int) (a1_2 : Bool) (a1_3 : Int) (a1_4 : Int) (a1_5 : Int) (r : Bool) (w : World) (h : laws_eqKid.f a0_0 a0_1 a0_2 a0_3 a0_4 a0_5 a1_0 a1_1 a1_2 a1_3 a1_4 a1_5 = some r) :
  Calls Try.prog 25 #[.agg #[.int .i64 a0_0,.int .i64 a0_1,.bool a0_2,.int .i64 a0_3,.int .i64 a0_4,.int .i64 a0_5],.agg #[.int .i64 a1_0,.int .i64 a1_1,.bool a1_2,.int .i64 a1_3,.int .i64 a1_4,.int .i64 a1_5]] w fun e w'=>e=.returned (.bool r)∧Below w.heap.size w w':=by
 have hu48 := Try.underlying48
 have hu23 := Try.underlying23
 have HB := Aside0.mk (Below.refl w.heap.size w)
 have H:(if a0_0=a1_0 then (if a0_1=a1_1 then (if (a0_2 != a1_2)=true then (some false) else ((laws_eqVec.f a0_3 a0_4 a0_5 a1_3 a1_4 a1_5).bind fun t126=>(if t126=true then (some true) else (some false)))) else (some false)) else (some false))=some r:=h
 clear h
 have HU3 := Aside0.mk H
 clear H
 go_enter Try.func25, Try.ntmps25
 go_upto_if 9 with (first|((with_reducible refine gate_dst (N:=2) rfl ?_);refine box_event ?hg (N:=2) ?hd (cs:=#[.int .i64 a0_0,.int .i64 a0_1,.bool a0_2,.int .i64 a0_3,.int .i64 a0_4,.int .i64 a0_5]) (t:=48) ?hr ?_;(case hd=>rfl);(case hg=>rfl);(case hr=>first|(go_simp;done)|(go_simp;rfl));intro gb124 hg w4 hbox hb;have n_:=an_ (below_step (pB_ HB.out) hb)<|an_ (hbox)<|an_ ((by rw [hg];exact (below_size (pB_ HB.out)):w.heap.size≤gb124))<|Aside0.mk ((by rw [hg];exact (below_size (pB_ HB.out)):w.heap.size≤gb124));clear HB;obtain ⟨HB,BK124,GW124,GE124⟩:=n_;clear hb hbox hg)|((with_reducible refine gate_dst (N:=3) rfl ?_);refine box_event ?hg (N:=3) ?hd (cs:=#[.int .i64 a1_0,.int .i64 a1_1,.bool a1_2,.int .i64 a1_3,.int .i64 a1_4,.int .i64 a1_5]) (t:=48) ?hr ?_;(case hd=>rfl);(case hg=>rfl);(case hr=>first|(go_simp;done)|(go_simp;rfl));intro gb125 hg w5 hbox hb;have n_:=an_ (blk_below (pk_ BK124.out) hb)<|an_ (below_step (pB_ HB.out) hb)<|an_ (hbox)<|an_ ((by rw [hg];exact (below_size (pB_ HB.out)):w.heap.size≤gb125))<|an_ ((by rw [hg];exact (below_size (pB_ HB.out)):w.heap.size≤gb125))<|an_ ((by rw [hg];exact Nat.ne_of_lt (blk_lt (pk_ BK124.out)):gb124≠gb125))<|Aside0.mk ((by rw [hg];exact Nat.ne_of_gt (blk_lt (pk_ BK124.out)):gb125≠gb124));clear BK124 HB;obtain ⟨BK124,HB,BK125,GW125,GE125,NB124_125,NB125_124⟩:=n_;clear hb hbox hg;(try have hnb6:=NB124_125.out);(try have hnc6:=NB125_124.out);have hcz7_0:w5.cell? ⟨gb124,0,none⟩=some (.int .i64 a0_0):=(blk_cell BK124.out 0).trans rfl;have hcz7_1:w5.cell? ⟨gb124,1,none⟩=some (.int .i64 a0_1):=(blk_cell BK124.out 1).trans rfl;have hcz7_2:w5.cell? ⟨gb124,2,none⟩=some (.bool a0_2):=(blk_cell BK124.out 2).trans rfl;have hcz7_3:w5.cell? ⟨gb124,3,none⟩=some (.int .i64 a0_3):=(blk_cell BK124.out 3).trans rfl;have hcz7_4:w5.cell? ⟨gb124,4,none⟩=some (.int .i64 a0_4):=(blk_cell BK124.out 4).trans rfl;have hcz7_5:w5.cell? ⟨gb124,5,none⟩=some (.int .i64 a0_5):=(blk_cell BK124.out 5).trans rfl;have hfz7_0:=blk_frozen BK124.out 0;have hfz7_1:=blk_frozen BK124.out 1;have hfz7_2:=blk_frozen BK124.out 2;have hfz7_3:=blk_frozen BK124.out 3;have hfz7_4:=blk_frozen BK124.out 4;have hfz7_5:=blk_frozen BK124.out 5;have hcz8_0:w5.cell? ⟨gb125,0,none⟩=some (.int .i64 a1_0):=(blk_cell BK125.out 0).trans rfl;have hcz8_1:w5.cell? ⟨gb125,1,none⟩=some (.int .i64 a1_1):=(blk_cell BK125.out 1).trans rfl;have hcz8_2:w5.cell? ⟨gb125,2,none⟩=some (.bool a1_2):=(blk_cell BK125.out 2).trans rfl;have hcz8_3:w5.cell? ⟨gb125,3,none⟩=some (.int .i64 a1_3):=(blk_cell BK125.out 3).trans rfl;have hcz8_4:w5.cell? ⟨gb125,4,none⟩=some (.int .i64 a1_4):=(blk_cell BK125.out 4).trans rfl;have hcz8_5:w5.cell? ⟨gb125,5,none⟩=some (.int .i64 a1_5):=(blk_cell BK125.out 5).trans rfl;have hfz8_0:=blk_frozen BK125.out 0;have hfz8_1:=blk_frozen BK125.out 1;have hfz8_2:=blk_frozen BK125.out 2;have hfz8_3:=blk_frozen BK125.out 3;have hfz8_4:=blk_frozen BK125.out 4;have hfz8_5:=blk_frozen BK125.out 5))
 have H := HU3.out
 clear HU3
 by_cases c9 : a0_0 = a1_0
 ·rw [if_pos c9] at H
  have c9b0:(a0_0 == a1_0)=true:=beq_iff_eq.mpr c9;have c9b1:(a0_0 != a1_0)=false:=bne_eq_false_iff_eq.mpr c9;clear c9;(first|rw [c9b0]|(simp only [i64_w,i32_w];rw [c9b0])|(have cz_:=c9b0;simp only [bne,gt_iff_lt,Int.natCast_pos] at cz_;first|rw [cz_]|(simp only [i64_w,i32_w];rw [cz_]))|skip)
  by_cases c10 : a0_1 = a1_1
  ·rw [if_pos c10] at H
   have c10b0 : (a0_1 == a1_1) = true := beq_iff_eq.mpr c10; have c10b1 : (a0_1 != a1_1) = false := bne_eq_false_iff_eq.mpr c10; clear c10
   by_cases c11 : (a0_2 != a1_2) = true
   ·rw [if_pos c11] at H
    have c11b0:(a0_2 != a1_2)=true:=c11;(try (have c11b1:decide (a0_2=a1_2)=false:=by simpa using c11));(try (have c11b2:(a0_2 == a1_2)=false:=by simpa using c11));(try (have c11b3:¬ (a0_2=a1_2):=by simpa using c11));clear c11;obtain rfl:=Option.some.inj H;(try have hnb12:=NB124_125.out);(try have hnc12:=NB125_124.out);obtain ⟨hcz13_0,hcz13_1,hcz13_2,hcz13_3,hcz13_4,hcz13_5,hfz13_0,hfz13_1,hfz13_2,hfz13_3,hfz13_4,hfz13_5⟩:=cells6 BK124.out;obtain ⟨hcz14_0,hcz14_1,hcz14_2,hcz14_3,hcz14_4,hcz14_5,hfz14_0,hfz14_1,hfz14_2,hfz14_3,hfz14_4,hfz14_5⟩:=cells6 BK125.out
    go_wp2
    go_ret; exact ⟨by first | rfl | (simp [errW_none, errW_some] <;> rfl) | (simp [*, errW_none, errW_some] <;> rfl), pB_ HB.out⟩
   ·rw [if_neg c11] at H
    have c11b0 : (a0_2 != a1_2) = false := by simpa using c11
    (try (have c11b1:decide (a0_2=a1_2)=true:=by simpa using c11));(try (have c11b2:(a0_2 == a1_2)=true:=by simpa using c11));clear c11;obtain ⟨t126,A150,H⟩:=Option.bind_eq_some_iff.mp H;(try dsimp only at H);have A15:=Aside0.mk A150;clear A150;have HU16:=Aside0.mk H;clear H;(try have hnb17:=NB124_125.out);(try have hnc17:=NB125_124.out);obtain ⟨hcz18_0,hcz18_1,hcz18_2,hcz18_3,hcz18_4,hcz18_5,hfz18_0,hfz18_1,hfz18_2,hfz18_3,hfz18_4,hfz18_5⟩:=cells6 BK124.out;obtain ⟨hcz19_0,hcz19_1,hcz19_2,hcz19_3,hcz19_4,hcz19_5,hfz19_0,hfz19_1,hfz19_2,hfz19_3,hfz19_4,hfz19_5⟩:=cells6 BK125.out
    go_upto_if 25 with (first|((with_reducible refine gate_callee (f:=19) rfl ?_);refine goesL_ (some 24) rfl rfl Try.func19 (by kernel_rfl) rfl #[.agg #[.int .i64 a0_3,.int .i64 a0_4,.int .i64 a0_5],.agg #[.int .i64 a1_3,.int .i64 a1_4,.int .i64 a1_5]] rfl Z2 ?_;(with_reducible refine (laws_eqVec.calls a0_3 a0_4 a0_5 a1_3 a1_4 a1_5 t126 _ A15.out).mono ?_);rintro e w20 ⟨rfl,hb⟩;refine ⟨_,rfl,?_⟩;have n_:=an_ (blk_below (pk_ BK124.out) hb)<|an_ (blk_below (pk_ BK125.out) hb)<|Aside0.mk (below_step (pB_ HB.out) hb);clear BK124 BK125 HB;obtain ⟨BK124,BK125,HB⟩:=n_;(try clear hb);(try clear hb2);(try clear hk);(try clear hi)))
    have H := HU16.out; clear HU16
    by_cases c21 : t126 = true
    ·subst c21
     rw [if_pos rfl] at H; obtain rfl := Option.some.inj H
     go_wp2
     go_ret; exact ⟨by first | rfl | (simp [errW_none, errW_some] <;> rfl) | (simp [*, errW_none, errW_some] <;> rfl), pB_ HB.out⟩
    ·replace c21 := Bool.eq_false_iff.mpr c21
     subst c21; rw [if_neg (show ¬ (false = true) by decide)] at H; obtain rfl := Option.some.inj H
     go_wp2
     go_ret; exact ⟨by first | rfl | (simp [errW_none, errW_some] <;> rfl) | (simp [*, errW_none, errW_some] <;> rfl), pB_ HB.out⟩
  ·rw [if_neg c10] at H
   have c10b0:(a0_1 == a1_1)=false:=beq_eq_false_iff_ne.mpr c10;have c10b1:(a0_1 != a1_1)=true:=bne_iff_ne.mpr c10;obtain rfl:=Option.some.inj H;(try have hnb22:=NB124_125.out);(try have hnc22:=NB125_124.out);obtain ⟨hcz23_0,hcz23_1,hcz23_2,hcz23_3,hcz23_4,hcz23_5,hfz23_0,hfz23_1,hfz23_2,hfz23_3,hfz23_4,hfz23_5⟩:=cells6 BK124.out;obtain ⟨hcz24_0,hcz24_1,hcz24_2,hcz24_3,hcz24_4,hcz24_5,hfz24_0,hfz24_1,hfz24_2,hfz24_3,hfz24_4,hfz24_5⟩:=cells6 BK125.out
   go_wp2
   go_ret; exact ⟨by first | rfl | (simp [errW_none, errW_some] <;> rfl) | (simp [*, errW_none, errW_some] <;> rfl), pB_ HB.out⟩
 ·rw [if_neg c9] at H
  have c9b0:(a0_0 == a1_0)=false:=beq_eq_false_iff_ne.mpr c9;have c9b1:(a0_0 != a1_0)=true:=bne_iff_ne.mpr c9;(first|rw [c9b0]|(simp only [i64_w,i32_w];rw [c9b0])|(have cz_:=c9b0;simp only [bne,gt_iff_lt,Int.natCast_pos] at cz_;first|rw [cz_]|(simp only [i64_w,i32_w];rw [cz_]))|skip);obtain rfl:=Option.some.inj H
  go_wp2
  go_ret; exact ⟨by first | rfl | (simp [errW_none, errW_some] <;> rfl) | (simp [*, errW_none, errW_some] <;> rfl), pB_ HB.out⟩

/-! ### laws_eqKidS: function 20 -/
def laws_eqKidS.l0 : Nat → List (S48) → List (S48) → Int → Option (Bool)
 | 0, _, _, _ => none
 | k + 1,x0,x1,x5=>if x5 < (x0.length:Int) then (if 0≤x5 then (if x5 < (x1.length:Int) then ((laws_eqKid.f ((rd_T48 x0 x5).f0) ((rd_T48 x0 x5).f1) ((rd_T48 x0 x5).f2) ((rd_T48 x0 x5).f3.f0) ((rd_T48 x0 x5).f3.f1) ((rd_T48 x0 x5).f3.f2) ((rd_T48 x1 x5).f0) ((rd_T48 x1 x5).f1) ((rd_T48 x1 x5).f2) ((rd_T48 x1 x5).f3.f0) ((rd_T48 x1 x5).f3.f1) ((rd_T48 x1 x5).f3.f2)).bind fun t129=>(if t129=true then (laws_eqKidS.l0 k x0 x1 (wrap64 (x5 + 1))) else (some false))) else (none)) else (none)) else (some true)
def laws_eqKidS.f (k : Nat) (l0 : List (S48)) (l1 : List (S48)) : Option (Bool) := if (l0.length : Int) = (l1.length : Int) then (laws_eqKidS.l0 k l0 l1 0) else (some false)
def laws_eqKidS.T6 : Bool × List (List Nat × List Nat) := (true, [([], []), ([], []), ([0, 1], [0, 1]), ([2], [2]), ([], []), ([], []), ([4, 5], [4, 5]), ([6], [6]), ([3, 7], [3, 7]), ([8], [8])])
def laws_eqKidS.B6 : List Nat := [0, 0, 3, 7, 0, 0, 48, 112, 255, 511]
theorem laws_eqKidS.tab6 : rtab .any (opsOf Try.f20 6) = laws_eqKidS.T6 := by kernel_rfl
theorem laws_eqKidS.bits6 : waitsOk laws_eqKidS.T6.2 laws_eqKidS.B6 = true := by kernel_rfl
set_option maxHeartbeats 8000000 in
set_option maxRecDepth 100000 in
theorem laws_eqKidS.calls (k : Nat) (A0 : Option Addr) (c0 : Nat) (l0 : List (S48)) (A1 : Option Addr) (c1 : Nat) (l1 : List (S48)) (r : Bool) (w : World) (hr0 : Kd.C k48 w A0 l0.length l0) (hc0 : l0.length ≤ c0) (hr1 : Kd.C k48 w A1 l1.length l1) (hc1 : l1.length ≤ c1) (h : laws_eqKidS.f k l0 l1 = some r) :
  Calls Try.prog 20 #[.slice A0 l0.length c0, .slice A1 l1.length c1] w fun e w' => e = .returned (.bool r) ∧ Below w.heap.size w w' := by
 have hu48 := Try.underlying48
 have HR0 := Aside0.mk hr0
 have HC0 := Aside0.mk hc0
 clear hr0 hc0
 have HR1 := Aside0.mk hr1
 have HC1 := Aside0.mk hc1
 clear hr1 hc1
 have HB := Aside0.mk (Below.refl w.heap.size w)
 have H : (if (l0.length : Int) = (l1.length : Int) then (laws_eqKidS.l0 k l0 l1 0) else (some false)) = some r := h
 clear h
 by_cases c3 : (l0.length : Int) = (l1.length : Int)
 ·rw [if_pos c3] at H
  have c3b0 : ((l0.length : Int) == (l1.length : Int)) = true := beq_iff_eq.mpr c3; have c3b1 : ((l0.length : Int) != (l1.length : Int)) = false := bne_eq_false_iff_eq.mpr c3
  have c3b2 : (l0.length == l1.length) = true := by first | simpa using c3 | (simp at c3 ⊢; omega)
  clear c3; have H' := Aside0.mk H; clear H; go_enter Try.func20, Try.ntmps20
  go_wp2
  go_loopg [5] k (fun kq v5 w' => ∃ (x5_1 : Int), v5 = .int .i64 x5_1 ∧ Aside0 (laws_eqKidS.l0 kq l0 l1 x5_1 = some r) ∧ Aside0 (kq ≤ k) ∧ Aside0 (Below w.heap.size w w'))
  case atStart => exact ⟨(0), Z6, H', ⟨Nat.le_refl _⟩, ⟨pB_ HB.out⟩⟩
  case round =>
   clear H'
   try clear c1
   try clear c2
   try clear p2
   try clear c3
   try clear c3b0
   try clear c3b1
   try clear c3b2
   obtain ⟨x5_1, rfl, HA, HK1, HB⟩ := hrel
   cases gk with
   | zero => exact absurd HA.out (by simp [laws_eqKidS.l0])
   | succ k1 =>
    have H := HA.out; clear HA; simp only [laws_eqKidS.l0] at H
    by_cases c4 : x5_1 < (l0.length : Int)
    ·rw [if_pos c4] at H
     have c4b0 : decide (x5_1 < (l0.length : Int)) = true := decide_eq_true c4; clear c4
     by_cases c5 : 0 ≤ x5_1
     ·rw [if_pos c5] at H
      have c5b0 : decide (0 ≤ x5_1) = true := decide_eq_true c5; clear c5
      by_cases c6 : x5_1 < (l1.length : Int)
      ·rw [if_pos c6] at H
       have c6b0:decide (x5_1 < (l1.length:Int))=true:=decide_eq_true c6;clear c6;obtain ⟨t129,A70,H⟩:=Option.bind_eq_some_iff.mp H;(try dsimp only at H);have A7:=Aside0.mk A70;clear A70;have HU8:=Aside0.mk H;clear H
       try go_wp2
       have n0_:=Aside0.mk (below_drew1 HB.out);clear HB;have HB:=n0_;clear n0_;have p127:0≤(x5_1:Int):=of_decide_eq_true Z5;have q127:x5_1 < (l0.length:Int):=of_decide_eq_true Z5;obtain ⟨ad127,e127,hx127_0,hx127_1,hx127_2,hx127_3,hx127_4,hx127_5⟩:=at_T48 HR0.out x5_1 p127 q127;have hw127_5:=hx127_5;have hw127_4:=hx127_4;have hw127_3:=hx127_3;have hw127_2:=hx127_2;have hw127_1:=hx127_1;have hw127_0:=hx127_0;cases e127;replace hx127_0:=(HB.out.cell (World.block_lt_of_cell? w _ hx127_0)).trans hx127_0;replace hx127_1:=(HB.out.cell (World.block_lt_of_cell? w _ hx127_1)).trans hx127_1;replace hx127_2:=(HB.out.cell (World.block_lt_of_cell? w _ hx127_2)).trans hx127_2;replace hx127_3:=(HB.out.cell (World.block_lt_of_cell? w _ hx127_3)).trans hx127_3;replace hx127_4:=(HB.out.cell (World.block_lt_of_cell? w _ hx127_4)).trans hx127_4;replace hx127_5:=(HB.out.cell (World.block_lt_of_cell? w _ hx127_5)).trans hx127_5;replace p127:=eq_true p127;replace q127:=eq_true q127;have p128:0≤(x5_1:Int):=of_decide_eq_true Z5;have q128:x5_1 < (l1.length:Int):=of_decide_eq_true Z5;obtain ⟨ad128,e128,hx128_0,hx128_1,hx128_2,hx128_3,hx128_4,hx128_5⟩:=at_T48 HR1.out x5_1 p128 q128;have hw128_5:=hx128_5;have hw128_4:=hx128_4;have hw128_3:=hx128_3;have hw128_2:=hx128_2;have hw128_1:=hx128_1;have hw128_0:=hx128_0;cases e128;replace hx128_0:=(HB.out.cell (World.block_lt_of_cell? w _ hx128_0)).trans hx128_0;replace hx128_1:=(HB.out.cell (World.block_lt_of_cell? w _ hx128_1)).trans hx128_1;replace hx128_2:=(HB.out.cell (World.block_lt_of_cell? w _ hx128_2)).trans hx128_2;replace hx128_3:=(HB.out.cell (World.block_lt_of_cell? w _ hx128_3)).trans hx128_3;replace hx128_4:=(HB.out.cell (World.block_lt_of_cell? w _ hx128_4)).trans hx128_4;replace hx128_5:=(HB.out.cell (World.block_lt_of_cell? w _ hx128_5)).trans hx128_5;replace p128:=eq_true p128;replace q128:=eq_true q128;refine start_ (n:=10) (S:=fun w'=>w'.cell? (ad127.add ((x5_1).toNat * 6))=some (.int .i64 ((rd_T48 l0 x5_1).f0))∧w'.cell? ⟨(ad127.add ((x5_1).toNat * 6)).block,(ad127.add ((x5_1).toNat * 6)).off + 1,none⟩=some (.int .i64 ((rd_T48 l0 x5_1).f1))∧w'.cell? ⟨(ad127.add ((x5_1).toNat * 6)).block,(ad127.add ((x5_1).toNat * 6)).off + 2,none⟩=some (.bool ((rd_T48 l0 x5_1).f2))∧w'.cell? ⟨(ad127.add ((x5_1).toNat * 6)).block,(ad127.add ((x5_1).toNat * 6)).off + 3,none⟩=some (.int .i64 ((rd_T48 l0 x5_1).f3.f0))∧w'.cell? ⟨(ad127.add ((x5_1).toNat * 6)).block,(ad127.add ((x5_1).toNat * 6)).off + 4,none⟩=some (.int .i64 ((rd_T48 l0 x5_1).f3.f1))∧w'.cell? ⟨(ad127.add ((x5_1).toNat * 6)).block,(ad127.add ((x5_1).toNat * 6)).off + 5,none⟩=some (.int .i64 ((rd_T48 l0 x5_1).f3.f2))∧w'.cell? (ad128.add ((x5_1).toNat * 6))=some (.int .i64 ((rd_T48 l1 x5_1).f0))∧w'.cell? ⟨(ad128.add ((x5_1).toNat * 6)).block,(ad128.add ((x5_1).toNat * 6)).off + 1,none⟩=some (.int .i64 ((rd_T48 l1 x5_1).f1))∧w'.cell? ⟨(ad128.add ((x5_1).toNat * 6)).block,(ad128.add ((x5_1).toNat * 6)).off + 2,none⟩=some (.bool ((rd_T48 l1 x5_1).f2))∧w'.cell? ⟨(ad128.add ((x5_1).toNat * 6)).block,(ad128.add ((x5_1).toNat * 6)).off + 3,none⟩=some (.int .i64 ((rd_T48 l1 x5_1).f3.f0))∧w'.cell? ⟨(ad128.add ((x5_1).toNat * 6)).block,(ad128.add ((x5_1).toNat * 6)).off + 4,none⟩=some (.int .i64 ((rd_T48 l1 x5_1).f3.f1))∧w'.cell? ⟨(ad128.add ((x5_1).toNat * 6)).block,(ad128.add ((x5_1).toNat * 6)).off + 5,none⟩=some (.int .i64 ((rd_T48 l1 x5_1).f3.f2))) (ds:=[]) (bz 10 0) (by kernel_rfl) rfl (by kernel_rfl) ⟨((HB.out.cell (World.block_lt_of_cell? w _ hw127_0)).trans hw127_0),((HB.out.cell (World.block_lt_of_cell? w _ hw127_1)).trans hw127_1),((HB.out.cell (World.block_lt_of_cell? w _ hw127_2)).trans hw127_2),((HB.out.cell (World.block_lt_of_cell? w _ hw127_3)).trans hw127_3),((HB.out.cell (World.block_lt_of_cell? w _ hw127_4)).trans hw127_4),((HB.out.cell (World.block_lt_of_cell? w _ hw127_5)).trans hw127_5),((HB.out.cell (World.block_lt_of_cell? w _ hw128_0)).trans hw128_0),((HB.out.cell (World.block_lt_of_cell? w _ hw128_1)).trans hw128_1),((HB.out.cell (World.block_lt_of_cell? w _ hw128_2)).trans hw128_2),((HB.out.cell (World.block_lt_of_cell? w _ hw128_3)).trans hw128_3),((HB.out.cell (World.block_lt_of_cell? w _ hw128_4)).trans hw128_4),((HB.out.cell (World.block_lt_of_cell? w _ hw128_5)).trans hw128_5)⟩ (fun hHeld=>?_);refine with_tabW laws_eqKidS.tab6 laws_eqKidS.bits6 (fun HT_ HW_=>?_)
       generalize wr.drew=w9 at HB hx127_0 hx127_1 hx127_2 hx127_3 hx127_4 hx127_5 hx128_0 hx128_1 hx128_2 hx128_3 hx128_4 hx128_5 hHeld ⊢;refine px_ (i:=0) (N:=some 17) (bz 10 1) (any_of HT_.out (by kernel_rfl)) ?_;refine px_ (i:=1) (N:=some 18) (bz 10 3) (any_of HT_.out (by kernel_rfl)) ?_;refine px_ (i:=2) (N:=some 19) (bz 10 7) (any_of HT_.out (by kernel_rfl)) ?_;refine px_ (i:=4) (N:=some 21) (bz 10 23) (any_of HT_.out (by kernel_rfl)) ?_;refine px_ (i:=5) (N:=some 22) (bz 10 55) (any_of HT_.out (by kernel_rfl)) ?_;refine px_ (i:=6) (N:=some 23) (bz 10 119) (any_of HT_.out (by kernel_rfl)) ?_;refine tx_ (i:=3) (N:=some 20) (bz 10 127) rfl rfl (take_ofW HT_.out HW_.out (by kernel_rfl)) hHeld Z4 ?_;refine tx_ (i:=7) (N:=some 24) (bz 10 255) rfl rfl (take_ofW HT_.out HW_.out (by kernel_rfl)) hHeld Z4 ?_;refine one_ (i:=8) (N:=some 25) (bz 10 511) rfl rfl (one_of HT_.out (by kernel_rfl)) (by decide) (fun K hK=>?_);refine goes_ Try.func25 (by kernel_rfl) rfl #[.agg #[.int .i64 ((rd_T48 l0 x5_1).f0),.int .i64 ((rd_T48 l0 x5_1).f1),.bool ((rd_T48 l0 x5_1).f2),.int .i64 ((rd_T48 l0 x5_1).f3.f0),.int .i64 ((rd_T48 l0 x5_1).f3.f1),.int .i64 ((rd_T48 l0 x5_1).f3.f2)],.agg #[.int .i64 ((rd_T48 l1 x5_1).f0),.int .i64 ((rd_T48 l1 x5_1).f1),.bool ((rd_T48 l1 x5_1).f2),.int .i64 ((rd_T48 l1 x5_1).f3.f0),.int .i64 ((rd_T48 l1 x5_1).f3.f1),.int .i64 ((rd_T48 l1 x5_1).f3.f2)]] (by rfl) rfl rfl Z2 ?_;with_reducible refine (laws_eqKid.calls ((rd_T48 l0 x5_1).f0) ((rd_T48 l0 x5_1).f1) ((rd_T48 l0 x5_1).f2) ((rd_T48 l0 x5_1).f3.f0) ((rd_T48 l0 x5_1).f3.f1) ((rd_T48 l0 x5_1).f3.f2) ((rd_T48 l1 x5_1).f0) ((rd_T48 l1 x5_1).f1) ((rd_T48 l1 x5_1).f2) ((rd_T48 l1 x5_1).f3.f0) ((rd_T48 l1 x5_1).f3.f1) ((rd_T48 l1 x5_1).f3.f2) t129 _ A7.out).mono ?_
       rintro e w10 ⟨rfl,hb⟩;refine ⟨_,rfl,?_⟩;have n0_:=Aside0.mk (below_step (pB_ HB.out) hb);clear HB;have HB:=n0_;clear n0_;(try clear hb);(try clear hb2);(try clear hk);(try clear hi);refine hK.out _ _ ⟨((HB.out.cell (World.block_lt_of_cell? w _ hw127_0)).trans hw127_0),((HB.out.cell (World.block_lt_of_cell? w _ hw127_1)).trans hw127_1),((HB.out.cell (World.block_lt_of_cell? w _ hw127_2)).trans hw127_2),((HB.out.cell (World.block_lt_of_cell? w _ hw127_3)).trans hw127_3),((HB.out.cell (World.block_lt_of_cell? w _ hw127_4)).trans hw127_4),((HB.out.cell (World.block_lt_of_cell? w _ hw127_5)).trans hw127_5),((HB.out.cell (World.block_lt_of_cell? w _ hw128_0)).trans hw128_0),((HB.out.cell (World.block_lt_of_cell? w _ hw128_1)).trans hw128_1),((HB.out.cell (World.block_lt_of_cell? w _ hw128_2)).trans hw128_2),((HB.out.cell (World.block_lt_of_cell? w _ hw128_3)).trans hw128_3),((HB.out.cell (World.block_lt_of_cell? w _ hw128_4)).trans hw128_4),((HB.out.cell (World.block_lt_of_cell? w _ hw128_5)).trans hw128_5)⟩ (fun hHeld=>?_);clear hK K;refine nx_ (N:=some 25) ?_;refine px_ (i:=9) (N:=some 26) (bz 10 1023) (any_of HT_.out (by kernel_rfl)) ?_;refine done_ (done_of HT_.out (by kernel_rfl)) ?_
       go_upto_if 26 with (fail)
       have H := HU8.out; clear HU8
       by_cases c11 : t129 = true
       ·subst c11
        rw [if_pos rfl] at H; have H' := Aside0.mk H; clear H
        go_wp2
        go_roundg k1
        case measure => have := HK1.out; omega
        case rel => exact ⟨(wrap64 (x5_1 + 1)), Z6, H', ⟨by have := HK1.out; omega⟩, ⟨pB_ HB.out⟩⟩
       ·replace c11 := Bool.eq_false_iff.mpr c11
        subst c11; rw [if_neg (show ¬ (false = true) by decide)] at H; obtain rfl := Option.some.inj H
        go_wp2
        go_ret; exact ⟨by first | rfl | (simp [errW_none, errW_some] <;> rfl) | (simp [*, errW_none, errW_some] <;> rfl), pB_ HB.out⟩
      ·rw [if_neg c6] at H
       exact absurd H (by simp)
     ·rw [if_neg c5] at H
      exact absurd H (by simp)
    ·rw [if_neg c4] at H
     have c4b0 : decide (x5_1 < (l0.length : Int)) = false := decide_eq_false c4; clear c4; obtain rfl := Option.some.inj H
     go_wp2
     go_ret; exact ⟨by first | rfl | (simp [errW_none, errW_some] <;> rfl) | (simp [*, errW_none, errW_some] <;> rfl), pB_ HB.out⟩
 ·rw [if_neg c3] at H
  have c3b0 : ((l0.length : Int) == (l1.length : Int)) = false := beq_eq_false_iff_ne.mpr c3; have c3b1 : ((l0.length : Int) != (l1.length : Int)) = true := bne_iff_ne.mpr c3
  have c3b2 : (l0.length == l1.length) = false := by first | simpa using c3 | (simp at c3 ⊢; omega)
  obtain rfl := Option.some.inj H; go_enter Try.func20, Try.ntmps20
  go_wp2
  go_ret; exact ⟨by first | rfl | (simp [errW_none, errW_some] <;> rfl) | (simp [*, errW_none, errW_some] <;> rfl), pB_ HB.out⟩

/-! ### laws_eqFair: function 11 -/
def laws_eqFair.f (k : Nat) (a0_0 : Int) (a0_1 : Int) (a0_2 : Int) (a0_3 : Int) (l0_4 : List (S48)) (a1_0 : Int) (a1_1 : Int) (a1_2 : Int) (a1_3 : Int) (l1_4 : List (S48)) : Option (Bool) := if a0_0 = a1_0 then ((laws_eqVec.f a0_1 a0_2 a0_3 a1_1 a1_2 a1_3).bind fun t132 => (if t132 = true then ((laws_eqKidS.f k l0_4 l1_4).bind fun t133 => (if t133 = true then (some true) else (some false))) else (some false))) else (some false)
set_option maxHeartbeats 8000000 in
set_option maxRecDepth 100000 in
theorem laws_eqFair.calls (k : Nat) (a0_0 : Int) (a0_1 : Int) (a0_2 : Int) (a0_3 : Int) (A0_4 : Option Addr) (c0_4 : Nat) (l0_4 : List (S48)) (a1_0 : Int) (a1_1 : Int) (a1_2 : Int) (a1_3 : Int) (A1_4 : Option Addr) (c1_4 : Nat) (l1_4 : List (S48)) (r : Bool) (w : World) (hr0_4 : Kd.C k48 w A0_4 l0_4.length l0_4) (hc0_4 : l0_4.length ≤ c0_4) (hr1_4 : Kd.C k48 w A1_4 l1_4.length l1_4) (hc1_4 : l1_4.length ≤ c1_4) (h : laws_eqFair.f k a0_0 a0_1 a0_2 a0_3 l0_4 a1_0 a1_1 a1_2 a1_3 l1_4 = some r) :
  Calls Try.prog 11 #[.agg #[.int .i64 a0_0,.int .i64 a0_1,.int .i64 a0_2,.int .i64 a0_3,.slice A0_4 l0_4.length c0_4],.agg #[.int .i64 a1_0,.int .i64 a1_1,.int .i64 a1_2,.int .i64 a1_3,.slice A1_4 l1_4.length c1_4]] w fun e w'=>e=.returned (.bool r)∧Below w.heap.size w w':=by
 have hu26 := Try.underlying26
 have hu23 := Try.underlying23
 have HR0_4 := Aside0.mk hr0_4
 have HC0_4 := Aside0.mk hc0_4
 clear hr0_4 hc0_4
 have HR1_4 := Aside0.mk hr1_4
 have HC1_4 := Aside0.mk hc1_4
 clear hr1_4 hc1_4
 have HB := Aside0.mk (Below.refl w.heap.size w)
 have H:(if a0_0=a1_0 then ((laws_eqVec.f a0_1 a0_2 a0_3 a1_1 a1_2 a1_3).bind fun t132=>(if t132=true then ((laws_eqKidS.f k l0_4 l1_4).bind fun t133=>(if t133=true then (some true) else (some false))) else (some false))) else (some false))=some r:=h
 clear h
 have HU3 := Aside0.mk H
 clear H
 go_enter Try.func11, Try.ntmps11
 go_upto_if 9 with (first|((with_reducible refine gate_dst (N:=2) rfl ?_);refine box_event ?hg (N:=2) ?hd (cs:=#[.int .i64 a0_0,.int .i64 a0_1,.int .i64 a0_2,.int .i64 a0_3,.slice A0_4 l0_4.length c0_4]) (t:=26) ?hr ?_;(case hd=>rfl);(case hg=>rfl);(case hr=>first|(go_simp;done)|(go_simp;rfl));intro gb130 hg w4 hbox hb;have n_:=an_ (below_step (pB_ HB.out) hb)<|an_ (hbox)<|an_ ((by rw [hg];exact (below_size (pB_ HB.out)):w.heap.size≤gb130))<|Aside0.mk ((by rw [hg];exact (below_size (pB_ HB.out)):w.heap.size≤gb130));clear HB;obtain ⟨HB,BK130,GW130,GE130⟩:=n_;clear hb hbox hg)|((with_reducible refine gate_dst (N:=3) rfl ?_);refine box_event ?hg (N:=3) ?hd (cs:=#[.int .i64 a1_0,.int .i64 a1_1,.int .i64 a1_2,.int .i64 a1_3,.slice A1_4 l1_4.length c1_4]) (t:=26) ?hr ?_;(case hd=>rfl);(case hg=>rfl);(case hr=>first|(go_simp;done)|(go_simp;rfl));intro gb131 hg w5 hbox hb;have n_:=an_ (blk_below (pk_ BK130.out) hb)<|an_ (below_step (pB_ HB.out) hb)<|an_ (hbox)<|an_ ((by rw [hg];exact (below_size (pB_ HB.out)):w.heap.size≤gb131))<|an_ ((by rw [hg];exact (below_size (pB_ HB.out)):w.heap.size≤gb131))<|an_ ((by rw [hg];exact Nat.ne_of_lt (blk_lt (pk_ BK130.out)):gb130≠gb131))<|Aside0.mk ((by rw [hg];exact Nat.ne_of_gt (blk_lt (pk_ BK130.out)):gb131≠gb130));clear BK130 HB;obtain ⟨BK130,HB,BK131,GW131,GE131,NB130_131,NB131_130⟩:=n_;clear hb hbox hg;(try have hnb6:=NB130_131.out);(try have hnc6:=NB131_130.out);have hcz7_0:w5.cell? ⟨gb130,0,none⟩=some (.int .i64 a0_0):=(blk_cell BK130.out 0).trans rfl;have hcz7_1:w5.cell? ⟨gb130,1,none⟩=some (.int .i64 a0_1):=(blk_cell BK130.out 1).trans rfl;have hcz7_2:w5.cell? ⟨gb130,2,none⟩=some (.int .i64 a0_2):=(blk_cell BK130.out 2).trans rfl;have hcz7_3:w5.cell? ⟨gb130,3,none⟩=some (.int .i64 a0_3):=(blk_cell BK130.out 3).trans rfl;have hcz7_4:w5.cell? ⟨gb130,4,none⟩=some (.slice A0_4 l0_4.length c0_4):=(blk_cell BK130.out 4).trans rfl;have hfz7_0:=blk_frozen BK130.out 0;have hfz7_1:=blk_frozen BK130.out 1;have hfz7_2:=blk_frozen BK130.out 2;have hfz7_3:=blk_frozen BK130.out 3;have hfz7_4:=blk_frozen BK130.out 4;have hcz8_0:w5.cell? ⟨gb131,0,none⟩=some (.int .i64 a1_0):=(blk_cell BK131.out 0).trans rfl;have hcz8_1:w5.cell? ⟨gb131,1,none⟩=some (.int .i64 a1_1):=(blk_cell BK131.out 1).trans rfl;have hcz8_2:w5.cell? ⟨gb131,2,none⟩=some (.int .i64 a1_2):=(blk_cell BK131.out 2).trans rfl;have hcz8_3:w5.cell? ⟨gb131,3,none⟩=some (.int .i64 a1_3):=(blk_cell BK131.out 3).trans rfl;have hcz8_4:w5.cell? ⟨gb131,4,none⟩=some (.slice A1_4 l1_4.length c1_4):=(blk_cell BK131.out 4).trans rfl;have hfz8_0:=blk_frozen BK131.out 0;have hfz8_1:=blk_frozen BK131.out 1;have hfz8_2:=blk_frozen BK131.out 2;have hfz8_3:=blk_frozen BK131.out 3;have hfz8_4:=blk_frozen BK131.out 4))
 have H := HU3.out
 clear HU3
 by_cases c9 : a0_0 = a1_0
 ·rw [if_pos c9] at H
  have c9b0:(a0_0 == a1_0)=true:=beq_iff_eq.mpr c9;have c9b1:(a0_0 != a1_0)=false:=bne_eq_false_iff_eq.mpr c9;clear c9;(first|rw [c9b0]|(simp only [i64_w,i32_w];rw [c9b0])|(have cz_:=c9b0;simp only [bne,gt_iff_lt,Int.natCast_pos] at cz_;first|rw [cz_]|(simp only [i64_w,i32_w];rw [cz_]))|skip);obtain ⟨t132,A100,H⟩:=Option.bind_eq_some_iff.mp H;(try dsimp only at H);have A10:=Aside0.mk A100;clear A100;have HU11:=Aside0.mk H;clear H;(try have hnb12:=NB130_131.out);(try have hnc12:=NB131_130.out);obtain ⟨hcz13_0,hcz13_1,hcz13_2,hcz13_3,hcz13_4,hfz13_0,hfz13_1,hfz13_2,hfz13_3,hfz13_4⟩:=cells5 BK130.out;obtain ⟨hcz14_0,hcz14_1,hcz14_2,hcz14_3,hcz14_4,hfz14_0,hfz14_1,hfz14_2,hfz14_3,hfz14_4⟩:=cells5 BK131.out
  go_upto_if 15 with (first|((with_reducible refine gate_callee (f:=19) rfl ?_);refine goesL_ (some 14) rfl rfl Try.func19 (by kernel_rfl) rfl #[.agg #[.int .i64 a0_1,.int .i64 a0_2,.int .i64 a0_3],.agg #[.int .i64 a1_1,.int .i64 a1_2,.int .i64 a1_3]] rfl Z2 ?_;(with_reducible refine (laws_eqVec.calls a0_1 a0_2 a0_3 a1_1 a1_2 a1_3 t132 _ A10.out).mono ?_);rintro e w15 ⟨rfl,hb⟩;refine ⟨_,rfl,?_⟩;have n_:=an_ (blk_below (pk_ BK130.out) hb)<|an_ (blk_below (pk_ BK131.out) hb)<|Aside0.mk (below_step (pB_ HB.out) hb);clear BK130 BK131 HB;obtain ⟨BK130,BK131,HB⟩:=n_;(try clear hb);(try clear hb2);(try clear hk);(try clear hi)))
  have H := HU11.out; clear HU11
  by_cases c16 : t132 = true
  ·subst c16
   rw [if_pos rfl] at H;obtain ⟨t133,A170,H⟩:=Option.bind_eq_some_iff.mp H;(try dsimp only at H);have A17:=Aside0.mk A170;clear A170;have HU18:=Aside0.mk H;clear H;(try have hnb19:=NB130_131.out);(try have hnc19:=NB131_130.out);obtain ⟨hcz20_0,hcz20_1,hcz20_2,hcz20_3,hcz20_4,hfz20_0,hfz20_1,hfz20_2,hfz20_3,hfz20_4⟩:=cells5 BK130.out;obtain ⟨hcz21_0,hcz21_1,hcz21_2,hcz21_3,hcz21_4,hfz21_0,hfz21_1,hfz21_2,hfz21_3,hfz21_4⟩:=cells5 BK131.out
   go_upto_if 21 with (first|((with_reducible refine gate_callee (f:=20) rfl ?_);refine goesL_ (some 20) rfl rfl Try.func20 (by kernel_rfl) rfl #[.slice A0_4 l0_4.length c0_4,.slice A1_4 l1_4.length c1_4] rfl Z2 ?_;(with_reducible refine (laws_eqKidS.calls k _ _ l0_4 _ _ l1_4 t133 _ ?side1 ?side2 ?side3 ?side4 A17.out).mono ?_);(case side1=>exact pC_ (Kd.C_below HR0_4.out HB.out));(case side2=>exact HC0_4.out);(case side3=>exact pC_ (Kd.C_below HR1_4.out HB.out));(case side4=>exact HC1_4.out);rintro e w22 ⟨rfl,hb⟩;refine ⟨_,rfl,?_⟩;have n_:=an_ (blk_below (pk_ BK130.out) hb)<|an_ (blk_below (pk_ BK131.out) hb)<|Aside0.mk (below_step (pB_ HB.out) hb);clear BK130 BK131 HB;obtain ⟨BK130,BK131,HB⟩:=n_;(try clear hb);(try clear hb2);(try clear hk);(try clear hi)))
   have H := HU18.out; clear HU18
   by_cases c23 : t133 = true
   ·subst c23
    rw [if_pos rfl] at H; obtain rfl := Option.some.inj H
    go_wp2
    go_ret; exact ⟨by first | rfl | (simp [errW_none, errW_some] <;> rfl) | (simp [*, errW_none, errW_some] <;> rfl), pB_ HB.out⟩
   ·replace c23 := Bool.eq_false_iff.mpr c23
    subst c23; rw [if_neg (show ¬ (false = true) by decide)] at H; obtain rfl := Option.some.inj H
    go_wp2
    go_ret; exact ⟨by first | rfl | (simp [errW_none, errW_some] <;> rfl) | (simp [*, errW_none, errW_some] <;> rfl), pB_ HB.out⟩
  ·replace c16 := Bool.eq_false_iff.mpr c16
   subst c16; rw [if_neg (show ¬ (false = true) by decide)] at H; obtain rfl := Option.some.inj H
   go_wp2
   go_ret; exact ⟨by first | rfl | (simp [errW_none, errW_some] <;> rfl) | (simp [*, errW_none, errW_some] <;> rfl), pB_ HB.out⟩
 ·rw [if_neg c9] at H
  have c9b0:(a0_0 == a1_0)=false:=beq_eq_false_iff_ne.mpr c9;have c9b1:(a0_0 != a1_0)=true:=bne_iff_ne.mpr c9;(first|rw [c9b0]|(simp only [i64_w,i32_w];rw [c9b0])|(have cz_:=c9b0;simp only [bne,gt_iff_lt,Int.natCast_pos] at cz_;first|rw [cz_]|(simp only [i64_w,i32_w];rw [cz_]))|skip);obtain rfl:=Option.some.inj H
  go_wp2
  go_ret; exact ⟨by first | rfl | (simp [errW_none, errW_some] <;> rfl) | (simp [*, errW_none, errW_some] <;> rfl), pB_ HB.out⟩

end Go.Proofs.Ytjeigejjndfkjaa.PFnExactTreeNew
