-- by a program of this session's, over the kit's words
import Derived.Test.YtecabogkenabnacPZFnExactMains
import Derived.Test.YtecabogkenabnacPFnExactMainsx0
import Derived.Test.YtecabogkenabnacPFnExactMainsx1
namespace Go.Proofs.Ytecabogkenabnac.PFnExactMains
open Go.RowKit Go.Proofs.YtecabogkenabnacW.PrintWords Go.Proofs.YtecabogkenabnacW.PrintLast Go.Proofs.YtecabogkenabnacW.PrintMore Go.Proofs.YtecabogkenabnacV Go.Proofs.Ytecabogkenabnac.ZFnExactMains
attribute [local go_sem] max2_int min2_int max_two min_two max_three min_three max_four min_four   -- for this text's walks alone
set_option linter.unusedVariables false
set_option linter.unusedSimpArgs false

/-! ### spec_DealsOk: function 23 -/
mutual
def spec_DealsOk.l0 : Nat → List (S43) → Int → Option (Bool)
 | 0, _, _ => none
 | k + 1,x0,x3=>if x3 < (x0.length:Int) then (if 0≤x3 then ((spec_ChargeOk.f ((rd_T43 x0 x3).f2.f0) ((rd_T43 x0 x3).f2.f1) ((rd_T43 x0 x3).f2.f2)).bind fun t111=>(if t111=true then ((spec_Stride.f ((rd_T43 x0 x3).f1)).bind fun t112=>(if t112=0 then (spec_DealsOk.j1 k x0 x3 true ((rd_T43 x0 x3).f0) ((rd_T43 x0 x3).f1) ((rd_T43 x0 x3).f2.f0) ((rd_T43 x0 x3).f2.f1) ((rd_T43 x0 x3).f2.f2) ((rd_T43 x0 x3).f3)) else (if (((rd_T43 x0 x3).f3).length:Int) > 10000 then (spec_DealsOk.j1 k x0 x3 true ((rd_T43 x0 x3).f0) ((rd_T43 x0 x3).f1) ((rd_T43 x0 x3).f2.f0) ((rd_T43 x0 x3).f2.f1) ((rd_T43 x0 x3).f2.f2) ((rd_T43 x0 x3).f3)) else ((spec_l19In.f k ((rd_T43 x0 x3).f3) ((rd_T43 x0 x3).f0)).bind fun t113=>(spec_DealsOk.j1 k x0 x3 (!t113) ((rd_T43 x0 x3).f0) ((rd_T43 x0 x3).f1) ((rd_T43 x0 x3).f2.f0) ((rd_T43 x0 x3).f2.f1) ((rd_T43 x0 x3).f2.f2) ((rd_T43 x0 x3).f3)))))) else (spec_DealsOk.j1 k x0 x3 true ((rd_T43 x0 x3).f0) ((rd_T43 x0 x3).f1) ((rd_T43 x0 x3).f2.f0) ((rd_T43 x0 x3).f2.f1) ((rd_T43 x0 x3).f2.f2) ((rd_T43 x0 x3).f3)))) else (none)) else (some true)
def spec_DealsOk.j1 : Nat → List (S43) → Int → Bool → Int → Int → Int → Int → Int → List Int → Option (Bool)
 | 0, _, _, _, _, _, _, _, _, _ => none
 | k + 1, x0, x3, x42, x111000, x111001, x111002, x111003, x111004, x111005 => if x42 = true then (some false) else (spec_DealsOk.l1 k x0 x3 0 x111000 x111001 x111002 x111003 x111004 x111005)
def spec_DealsOk.l1 : Nat → List (S43) → Int → Int → Int → Int → Int → Int → Int → List Int → Option (Bool)
 | 0, _, _, _, _, _, _, _, _, _ => none
 | k + 1,x0,x3,x5,x111000,x111001,x111002,x111003,x111004,x111005=>if x5 < (x111005.length:Int) then (if 0≤x5 then (if (rd x111005 x5) < 0 then (some false) else (if (rd x111005 x5) > 9999 then (some false) else (if x5 > 0 then (if 0≤(wrap64 (x5 - 1)) then (if (wrap64 (x5 - 1)) < (x111005.length:Int) then (if (rd x111005 (wrap64 (x5 - 1))) ≥ (rd x111005 x5) then (some false) else (spec_DealsOk.l1 k x0 x3 (wrap64 (x5 + 1)) x111000 x111001 x111002 x111003 x111004 x111005)) else (none)) else (none)) else (spec_DealsOk.l1 k x0 x3 (wrap64 (x5 + 1)) x111000 x111001 x111002 x111003 x111004 x111005)))) else (none)) else (spec_DealsOk.l0 k x0 (wrap64 (x3 + 1)))
end
def spec_DealsOk.f (k : Nat) (l0 : List (S43)) : Option (Bool) := if (l0.length : Int) > 200 then (some false) else (spec_DealsOk.l0 k l0 0)
set_option maxHeartbeats 8000000 in
set_option maxRecDepth 100000 in
theorem spec_DealsOk.calls (k : Nat) (A0 : Option Addr) (c0 : Nat) (l0 : List (S43)) (r : Bool) (w : World) (hr0 : Kd.C k43 w A0 l0.length l0) (hc0 : l0.length ≤ c0) (h : spec_DealsOk.f k l0 = some r) :
  Calls Try.prog 23 #[.slice A0 l0.length c0] w fun e w' => e = .returned (.bool r) ∧ Below w.heap.size w w' := by
 have hu43 := Try.underlying43
 have hu41 := Try.underlying41
 have HR0 := Aside0.mk hr0
 have HC0 := Aside0.mk hc0
 clear hr0 hc0
 have HB := Aside0.mk (Below.refl w.heap.size w)
 have H : (if (l0.length : Int) > 200 then (some false) else (spec_DealsOk.l0 k l0 0)) = some r := h
 clear h
 by_cases c2 : (l0.length : Int) > 200
 ·rw [if_pos c2] at H
  have c2b0:decide (200 < (l0.length:Int))=true:=decide_eq_true c2;have c2b1:decide (200 < l0.length)=true:=decide_eq_true (by omega);clear c2;obtain rfl:=Option.some.inj H;go_enter Try.func23,Try.ntmps23
  go_wp2
  repeat (go_quiet (fail); try go_wp2)
  go_ret; exact ⟨by first | rfl | (simp [errW_none, errW_some] <;> rfl) | (simp [*, errW_none, errW_some] <;> rfl), pB_ HB.out⟩
 ·rw [if_neg c2] at H
  have c2b0:decide (200 < (l0.length:Int))=false:=decide_eq_false c2;have c2b1:decide (200 < l0.length)=false:=decide_eq_false (by omega);clear c2;have H':=Aside0.mk H;clear H;go_enter Try.func23,Try.ntmps23
  go_wp2
  repeat (go_quiet (fail); try go_wp2)
  go_loopg [3] k (fun kq v3 w' => ∃ (x3_1 : Int), v3 = .int .i64 x3_1 ∧ Aside0 (spec_DealsOk.l0 kq l0 x3_1 = some r) ∧ Aside0 (kq ≤ k) ∧ Aside0 (Below w.heap.size w w'))
  case atStart => exact ⟨(0), Z9, H', ⟨Nat.le_refl _⟩, ⟨pB_ HB.out⟩⟩
  case round =>
   clear H'
   try clear c2
   try clear c2b0
   try clear c2b1
   try clear p2
   obtain ⟨x3_1, rfl, HA, HK1, HB⟩ := hrel
   cases gk with
   | zero => exact absurd HA.out (by simp [spec_DealsOk.l0])
   | succ k1 =>
    have H := HA.out; clear HA; simp only [spec_DealsOk.l0] at H
    by_cases c3 : x3_1 < (l0.length : Int)
    ·rw [if_pos c3] at H
     have c3b0 : decide (x3_1 < (l0.length : Int)) = true := decide_eq_true c3; clear c3
     by_cases c4 : 0 ≤ x3_1
     ·rw [if_pos c4] at H
      have c4b0:decide (0≤x3_1)=true:=decide_eq_true c4;clear c4;have HC5:=Aside0.mk H;clear H;have p109:0≤(x3_1:Int):=of_decide_eq_true Z8;have q109:x3_1 < (l0.length:Int):=of_decide_eq_true Z8;obtain ⟨ad109,A109_5,c109_5,e109,hx109_0,hx109_1,hx109_2,hx109_3,hx109_4,hx109_5,hl109_5,hi109_5⟩:=at_T43 HR0.out x3_1 p109 q109;cases e109;replace hx109_0:=(HB.out.cell (World.block_lt_of_cell? w _ hx109_0)).trans hx109_0;replace hx109_1:=(HB.out.cell (World.block_lt_of_cell? w _ hx109_1)).trans hx109_1;replace hx109_2:=(HB.out.cell (World.block_lt_of_cell? w _ hx109_2)).trans hx109_2;replace hx109_3:=(HB.out.cell (World.block_lt_of_cell? w _ hx109_3)).trans hx109_3;replace hx109_4:=(HB.out.cell (World.block_lt_of_cell? w _ hx109_4)).trans hx109_4;replace hx109_5:=(HB.out.cell (World.block_lt_of_cell? w _ hx109_5)).trans hx109_5;have HR109_5:=Aside0.mk hi109_5;have HC109_5:=Aside0.mk hl109_5;clear hi109_5 hl109_5;replace p109:=eq_true p109;replace q109:=eq_true q109
      go_upto_region 7 with (first|((with_reducible refine gate_dst (N:=4) rfl ?_);(try (refine gate_guard (by rfl) ?_;dsimp only));refine box_event ?hg (N:=4) ?hd (cs:=#[.int .i64 0,.int .i64 0,.int .i64 0,.int .i64 0,.int .i64 0,.slice none 0 0]) (t:=43) ?hr ?_;(case hd=>rfl);(case hg=>rfl);(case hr=>first|(go_simp;done)|(go_simp;rfl));intro Ka hg w6 hbox hb;have n_:=an_ (below_step (pB_ HB.out) hb)<|an_ (hbox)<|an_ ((by rw [hg];exact (below_size (pB_ HB.out)):w.heap.size≤Ka))<|Aside0.mk ((by rw [hg];exact (below_size (pB_ HB.out)):w.heap.size≤Ka));clear HB;obtain ⟨HB,Ja,Jj,Kj⟩:=n_;clear hb hbox hg;have Oa:w6.cell? ⟨Ka,0,none⟩=some (.int .i64 0):=(blk_cell Ja.out 0).trans rfl;have Ua:w6.cell? ⟨Ka,1,none⟩=some (.int .i64 0):=(blk_cell Ja.out 1).trans rfl;have Xa:w6.cell? ⟨Ka,2,none⟩=some (.int .i64 0):=(blk_cell Ja.out 2).trans rfl;have Jb:w6.cell? ⟨Ka,3,none⟩=some (.int .i64 0):=(blk_cell Ja.out 3).trans rfl;have Kb:w6.cell? ⟨Ka,4,none⟩=some (.int .i64 0):=(blk_cell Ja.out 4).trans rfl;have Mb:w6.cell? ⟨Ka,5,none⟩=some (.slice none 0 0):=(blk_cell Ja.out 5).trans rfl;have Ob:=blk_frozen Ja.out 0;have Ub:=blk_frozen Ja.out 1;have Xb:=blk_frozen Ja.out 2;have Jc:=blk_frozen Ja.out 3;have Kc:=blk_frozen Ja.out 4;have Mc:=blk_frozen Ja.out 5))
      repeat (go_quiet (first|((with_reducible refine gate_dst (N:=4) rfl ?_);(try (refine gate_guard (by rfl) ?_;dsimp only));refine box_event ?hg (N:=4) ?hd (cs:=#[.int .i64 0,.int .i64 0,.int .i64 0,.int .i64 0,.int .i64 0,.slice none 0 0]) (t:=43) ?hr ?_;(case hd=>rfl);(case hg=>rfl);(case hr=>first|(go_simp;done)|(go_simp;rfl));intro Ka hg w6 hbox hb;have n_:=an_ (below_step (pB_ HB.out) hb)<|an_ (hbox)<|an_ ((by rw [hg];exact (below_size (pB_ HB.out)):w.heap.size≤Ka))<|Aside0.mk ((by rw [hg];exact (below_size (pB_ HB.out)):w.heap.size≤Ka));clear HB;obtain ⟨HB,Ja,Jj,Kj⟩:=n_;clear hb hbox hg;have Oa:w6.cell? ⟨Ka,0,none⟩=some (.int .i64 0):=(blk_cell Ja.out 0).trans rfl;have Ua:w6.cell? ⟨Ka,1,none⟩=some (.int .i64 0):=(blk_cell Ja.out 1).trans rfl;have Xa:w6.cell? ⟨Ka,2,none⟩=some (.int .i64 0):=(blk_cell Ja.out 2).trans rfl;have Jb:w6.cell? ⟨Ka,3,none⟩=some (.int .i64 0):=(blk_cell Ja.out 3).trans rfl;have Kb:w6.cell? ⟨Ka,4,none⟩=some (.int .i64 0):=(blk_cell Ja.out 4).trans rfl;have Mb:w6.cell? ⟨Ka,5,none⟩=some (.slice none 0 0):=(blk_cell Ja.out 5).trans rfl;have Ob:=blk_frozen Ja.out 0;have Ub:=blk_frozen Ja.out 1;have Xb:=blk_frozen Ja.out 2;have Jc:=blk_frozen Ja.out 3;have Kc:=blk_frozen Ja.out 4;have Mc:=blk_frozen Ja.out 5));go_upto_region 7 with (first|((with_reducible refine gate_dst (N:=4) rfl ?_);(try (refine gate_guard (by rfl) ?_;dsimp only));refine box_event ?hg (N:=4) ?hd (cs:=#[.int .i64 0,.int .i64 0,.int .i64 0,.int .i64 0,.int .i64 0,.slice none 0 0]) (t:=43) ?hr ?_;(case hd=>rfl);(case hg=>rfl);(case hr=>first|(go_simp;done)|(go_simp;rfl));intro Ka hg w6 hbox hb;have n_:=an_ (below_step (pB_ HB.out) hb)<|an_ (hbox)<|an_ ((by rw [hg];exact (below_size (pB_ HB.out)):w.heap.size≤Ka))<|Aside0.mk ((by rw [hg];exact (below_size (pB_ HB.out)):w.heap.size≤Ka));clear HB;obtain ⟨HB,Ja,Jj,Kj⟩:=n_;clear hb hbox hg;have Oa:w6.cell? ⟨Ka,0,none⟩=some (.int .i64 0):=(blk_cell Ja.out 0).trans rfl;have Ua:w6.cell? ⟨Ka,1,none⟩=some (.int .i64 0):=(blk_cell Ja.out 1).trans rfl;have Xa:w6.cell? ⟨Ka,2,none⟩=some (.int .i64 0):=(blk_cell Ja.out 2).trans rfl;have Jb:w6.cell? ⟨Ka,3,none⟩=some (.int .i64 0):=(blk_cell Ja.out 3).trans rfl;have Kb:w6.cell? ⟨Ka,4,none⟩=some (.int .i64 0):=(blk_cell Ja.out 4).trans rfl;have Mb:w6.cell? ⟨Ka,5,none⟩=some (.slice none 0 0):=(blk_cell Ja.out 5).trans rfl;have Ob:=blk_frozen Ja.out 0;have Ub:=blk_frozen Ja.out 1;have Xb:=blk_frozen Ja.out 2;have Jc:=blk_frozen Ja.out 3;have Kc:=blk_frozen Ja.out 4;have Mc:=blk_frozen Ja.out 5)))
      (try simp only [Act.put, List.setIfInBounds_toArray, List.set_cons_zero, List.set_cons_succ])
      go_cut [42] (fun v42 wc=>∃ (kq:Nat) (Oc:Bool),v42=.bool Oc∧Aside0 (spec_DealsOk.j1 kq l0 x3_1 Oc ((rd_T43 l0 x3_1).f0) ((rd_T43 l0 x3_1).f1) ((rd_T43 l0 x3_1).f2.f0) ((rd_T43 l0 x3_1).f2.f1) ((rd_T43 l0 x3_1).f2.f2) ((rd_T43 l0 x3_1).f3)=some r)∧Aside0 (kq≤k1)∧Aside0 (wc.heap[Ka]?=some (.cells #[.int .i64 ((rd_T43 l0 x3_1).f0),.int .i64 ((rd_T43 l0 x3_1).f1),.int .i64 ((rd_T43 l0 x3_1).f2.f0),.int .i64 ((rd_T43 l0 x3_1).f2.f1),.int .i64 ((rd_T43 l0 x3_1).f2.f2),(.slice A109_5 ((rd_T43 l0 x3_1).f3).length c109_5)] 43 (0,0)))∧Aside0 (Below w.heap.size w wc))
      case first =>
       have H := HC5.out; clear HC5; obtain ⟨Ms, A80, H⟩ := Option.bind_eq_some_iff.mp H; (try dsimp only at H); have A8 := Aside0.mk A80; clear A80
       by_cases c9 : Ms = true
       ·subst c9
        rw [if_pos rfl] at H; obtain ⟨Ma, A100, H⟩ := Option.bind_eq_some_iff.mp H; (try dsimp only at H); have A10 := Aside0.mk A100; clear A100
        by_cases c11 : Ma = 0
        ·rw [if_pos c11] at H
         have c11b0:(Ma == 0)=true:=beq_iff_eq.mpr c11;have c11b1:(Ma != 0)=false:=bne_eq_false_iff_eq.mpr c11;clear c11;(first|rw [c11b0]|(simp only [i64_w,i32_w];rw [c11b0])|(have cz_:=c11b0;simp only [bne,gt_iff_lt,Int.natCast_pos] at cz_;first|rw [cz_]|(simp only [i64_w,i32_w];rw [cz_]))|skip);have H':=Aside0.mk H;clear H;obtain ⟨Mj,Oj,Uj,Xj,Jk,Kk,Mk,Ok,Uk,Xk,Jm,Km⟩:=cells6 Ja.out
         go_wp2_with (first|(go_at_call 34;(with_reducible refine (spec_ChargeOk.calls ((rd_T43 l0 x3_1).f2.f0) ((rd_T43 l0 x3_1).f2.f1) ((rd_T43 l0 x3_1).f2.f2) true _ A8.out).mono ?_);rintro e w13 ⟨rfl,hb⟩;have n_:=an_ (blk_below (g:=Ka) (o:=.cells #[.int .i64 ((rd_T43 l0 x3_1).f0),.int .i64 ((rd_T43 l0 x3_1).f1),.int .i64 ((rd_T43 l0 x3_1).f2.f0),.int .i64 ((rd_T43 l0 x3_1).f2.f1),.int .i64 ((rd_T43 l0 x3_1).f2.f2),.slice A109_5 ((rd_T43 l0 x3_1).f3).length c109_5] 43 (0,0)) Z0 hb)<|Aside0.mk (below_step (pB_ HB.out) hb);clear Ja HB;obtain ⟨Ja,HB⟩:=n_;(try clear hb);(try clear hb2);(try clear hk);(try clear hi);have Uc:w13.cell? ⟨Ka,0,none⟩=some (.int .i64 ((rd_T43 l0 x3_1).f0)):=(blk_cell Ja.out 0).trans rfl;have Xc:w13.cell? ⟨Ka,1,none⟩=some (.int .i64 ((rd_T43 l0 x3_1).f1)):=(blk_cell Ja.out 1).trans rfl;have Jd:w13.cell? ⟨Ka,2,none⟩=some (.int .i64 ((rd_T43 l0 x3_1).f2.f0)):=(blk_cell Ja.out 2).trans rfl;have Md:w13.cell? ⟨Ka,3,none⟩=some (.int .i64 ((rd_T43 l0 x3_1).f2.f1)):=(blk_cell Ja.out 3).trans rfl;have Od:w13.cell? ⟨Ka,4,none⟩=some (.int .i64 ((rd_T43 l0 x3_1).f2.f2)):=(blk_cell Ja.out 4).trans rfl;have Ud:w13.cell? ⟨Ka,5,none⟩=some (.slice A109_5 ((rd_T43 l0 x3_1).f3).length c109_5):=(blk_cell Ja.out 5).trans rfl;have Xd:=blk_frozen Ja.out 0;have Je:=blk_frozen Ja.out 1;have Ke:=blk_frozen Ja.out 2;have Me:=blk_frozen Ja.out 3;have Oe:=blk_frozen Ja.out 4;have Ue:=blk_frozen Ja.out 5)|(go_at_call 35;(with_reducible refine (spec_Stride.calls ((rd_T43 l0 x3_1).f1) Ma _ A10.out).mono ?_);rintro e w' ⟨rfl,⟨nd,rfl⟩⟩;(try first|exact ⟨rfl,_,World.drewN_drewN _ _ _⟩|exact ⟨rfl,_,Eq.trans (World.drewN_drewN _ _ _) (congrArg (World.drewN _) (Nat.add_assoc _ _ _))⟩)))
         repeat (go_quiet (first|(go_at_call 34;(with_reducible refine (spec_ChargeOk.calls ((rd_T43 l0 x3_1).f2.f0) ((rd_T43 l0 x3_1).f2.f1) ((rd_T43 l0 x3_1).f2.f2) true _ A8.out).mono ?_);rintro e w13 ⟨rfl,hb⟩;have n_:=an_ (blk_below (g:=Ka) (o:=.cells #[.int .i64 ((rd_T43 l0 x3_1).f0),.int .i64 ((rd_T43 l0 x3_1).f1),.int .i64 ((rd_T43 l0 x3_1).f2.f0),.int .i64 ((rd_T43 l0 x3_1).f2.f1),.int .i64 ((rd_T43 l0 x3_1).f2.f2),.slice A109_5 ((rd_T43 l0 x3_1).f3).length c109_5] 43 (0,0)) Z0 hb)<|Aside0.mk (below_step (pB_ HB.out) hb);clear Ja HB;obtain ⟨Ja,HB⟩:=n_;(try clear hb);(try clear hb2);(try clear hk);(try clear hi);have Uc:w13.cell? ⟨Ka,0,none⟩=some (.int .i64 ((rd_T43 l0 x3_1).f0)):=(blk_cell Ja.out 0).trans rfl;have Xc:w13.cell? ⟨Ka,1,none⟩=some (.int .i64 ((rd_T43 l0 x3_1).f1)):=(blk_cell Ja.out 1).trans rfl;have Jd:w13.cell? ⟨Ka,2,none⟩=some (.int .i64 ((rd_T43 l0 x3_1).f2.f0)):=(blk_cell Ja.out 2).trans rfl;have Md:w13.cell? ⟨Ka,3,none⟩=some (.int .i64 ((rd_T43 l0 x3_1).f2.f1)):=(blk_cell Ja.out 3).trans rfl;have Od:w13.cell? ⟨Ka,4,none⟩=some (.int .i64 ((rd_T43 l0 x3_1).f2.f2)):=(blk_cell Ja.out 4).trans rfl;have Ud:w13.cell? ⟨Ka,5,none⟩=some (.slice A109_5 ((rd_T43 l0 x3_1).f3).length c109_5):=(blk_cell Ja.out 5).trans rfl;have Xd:=blk_frozen Ja.out 0;have Je:=blk_frozen Ja.out 1;have Ke:=blk_frozen Ja.out 2;have Me:=blk_frozen Ja.out 3;have Oe:=blk_frozen Ja.out 4;have Ue:=blk_frozen Ja.out 5)|(go_at_call 35;(with_reducible refine (spec_Stride.calls ((rd_T43 l0 x3_1).f1) Ma _ A10.out).mono ?_);rintro e w' ⟨rfl,⟨nd,rfl⟩⟩;(try first|exact ⟨rfl,_,World.drewN_drewN _ _ _⟩|exact ⟨rfl,_,Eq.trans (World.drewN_drewN _ _ _) (congrArg (World.drewN _) (Nat.add_assoc _ _ _))⟩)));try go_wp2_with (first|(go_at_call 34;(with_reducible refine (spec_ChargeOk.calls ((rd_T43 l0 x3_1).f2.f0) ((rd_T43 l0 x3_1).f2.f1) ((rd_T43 l0 x3_1).f2.f2) true _ A8.out).mono ?_);rintro e w13 ⟨rfl,hb⟩;have n_:=an_ (blk_below (g:=Ka) (o:=.cells #[.int .i64 ((rd_T43 l0 x3_1).f0),.int .i64 ((rd_T43 l0 x3_1).f1),.int .i64 ((rd_T43 l0 x3_1).f2.f0),.int .i64 ((rd_T43 l0 x3_1).f2.f1),.int .i64 ((rd_T43 l0 x3_1).f2.f2),.slice A109_5 ((rd_T43 l0 x3_1).f3).length c109_5] 43 (0,0)) Z0 hb)<|Aside0.mk (below_step (pB_ HB.out) hb);clear Ja HB;obtain ⟨Ja,HB⟩:=n_;(try clear hb);(try clear hb2);(try clear hk);(try clear hi);have Uc:w13.cell? ⟨Ka,0,none⟩=some (.int .i64 ((rd_T43 l0 x3_1).f0)):=(blk_cell Ja.out 0).trans rfl;have Xc:w13.cell? ⟨Ka,1,none⟩=some (.int .i64 ((rd_T43 l0 x3_1).f1)):=(blk_cell Ja.out 1).trans rfl;have Jd:w13.cell? ⟨Ka,2,none⟩=some (.int .i64 ((rd_T43 l0 x3_1).f2.f0)):=(blk_cell Ja.out 2).trans rfl;have Md:w13.cell? ⟨Ka,3,none⟩=some (.int .i64 ((rd_T43 l0 x3_1).f2.f1)):=(blk_cell Ja.out 3).trans rfl;have Od:w13.cell? ⟨Ka,4,none⟩=some (.int .i64 ((rd_T43 l0 x3_1).f2.f2)):=(blk_cell Ja.out 4).trans rfl;have Ud:w13.cell? ⟨Ka,5,none⟩=some (.slice A109_5 ((rd_T43 l0 x3_1).f3).length c109_5):=(blk_cell Ja.out 5).trans rfl;have Xd:=blk_frozen Ja.out 0;have Je:=blk_frozen Ja.out 1;have Ke:=blk_frozen Ja.out 2;have Me:=blk_frozen Ja.out 3;have Oe:=blk_frozen Ja.out 4;have Ue:=blk_frozen Ja.out 5)|(go_at_call 35;(with_reducible refine (spec_Stride.calls ((rd_T43 l0 x3_1).f1) Ma _ A10.out).mono ?_);rintro e w' ⟨rfl,⟨nd,rfl⟩⟩;(try first|exact ⟨rfl,_,World.drewN_drewN _ _ _⟩|exact ⟨rfl,_,Eq.trans (World.drewN_drewN _ _ _) (congrArg (World.drewN _) (Nat.add_assoc _ _ _))⟩))))
         go_meet
         case rel => exact ⟨_, (true), Z9, H', ⟨by have := HK1.out; first | omega | exact Nat.le_refl _⟩, ⟨pk_ Ja.out⟩, ⟨pB_ HB.out⟩⟩
        ·rw [if_neg c11] at H
         have c11b0:(Ma == 0)=false:=beq_eq_false_iff_ne.mpr c11;have c11b1:(Ma != 0)=true:=bne_iff_ne.mpr c11;(first|rw [c11b0]|(simp only [i64_w,i32_w];rw [c11b0])|(have cz_:=c11b0;simp only [bne,gt_iff_lt,Int.natCast_pos] at cz_;first|rw [cz_]|(simp only [i64_w,i32_w];rw [cz_]))|skip)
         by_cases c15 : (((rd_T43 l0 x3_1).f3).length : Int) > 10000
         ·rw [if_pos c15] at H
          have c15b0:decide (10000 < (((rd_T43 l0 x3_1).f3).length:Int))=true:=decide_eq_true c15;have c15b1:decide (10000 < ((rd_T43 l0 x3_1).f3).length)=true:=decide_eq_true (by omega);clear c15;have H':=Aside0.mk H;clear H;obtain ⟨Mm,Om,Um,Xm,Jn,Kn,Mn,On,Un,Xn,Jo,Ko⟩:=cells6 Ja.out
          go_wp2_with (first|(go_at_call 34;(with_reducible refine (spec_ChargeOk.calls ((rd_T43 l0 x3_1).f2.f0) ((rd_T43 l0 x3_1).f2.f1) ((rd_T43 l0 x3_1).f2.f2) true _ A8.out).mono ?_);rintro e w17 ⟨rfl,hb⟩;have n_:=an_ (blk_below (g:=Ka) (o:=.cells #[.int .i64 ((rd_T43 l0 x3_1).f0),.int .i64 ((rd_T43 l0 x3_1).f1),.int .i64 ((rd_T43 l0 x3_1).f2.f0),.int .i64 ((rd_T43 l0 x3_1).f2.f1),.int .i64 ((rd_T43 l0 x3_1).f2.f2),.slice A109_5 ((rd_T43 l0 x3_1).f3).length c109_5] 43 (0,0)) Z0 hb)<|Aside0.mk (below_step (pB_ HB.out) hb);clear Ja HB;obtain ⟨Ja,HB⟩:=n_;(try clear hb);(try clear hb2);(try clear hk);(try clear hi);have Xe:w17.cell? ⟨Ka,0,none⟩=some (.int .i64 ((rd_T43 l0 x3_1).f0)):=(blk_cell Ja.out 0).trans rfl;have Jf:w17.cell? ⟨Ka,1,none⟩=some (.int .i64 ((rd_T43 l0 x3_1).f1)):=(blk_cell Ja.out 1).trans rfl;have Kf:w17.cell? ⟨Ka,2,none⟩=some (.int .i64 ((rd_T43 l0 x3_1).f2.f0)):=(blk_cell Ja.out 2).trans rfl;have Mf:w17.cell? ⟨Ka,3,none⟩=some (.int .i64 ((rd_T43 l0 x3_1).f2.f1)):=(blk_cell Ja.out 3).trans rfl;have Of:w17.cell? ⟨Ka,4,none⟩=some (.int .i64 ((rd_T43 l0 x3_1).f2.f2)):=(blk_cell Ja.out 4).trans rfl;have Uf:w17.cell? ⟨Ka,5,none⟩=some (.slice A109_5 ((rd_T43 l0 x3_1).f3).length c109_5):=(blk_cell Ja.out 5).trans rfl;have Xf:=blk_frozen Ja.out 0;have Jg:=blk_frozen Ja.out 1;have Kg:=blk_frozen Ja.out 2;have Mg:=blk_frozen Ja.out 3;have Og:=blk_frozen Ja.out 4;have Ug:=blk_frozen Ja.out 5)|(go_at_call 35;(with_reducible refine (spec_Stride.calls ((rd_T43 l0 x3_1).f1) Ma _ A10.out).mono ?_);rintro e w' ⟨rfl,⟨nd,rfl⟩⟩;(try first|exact ⟨rfl,_,World.drewN_drewN _ _ _⟩|exact ⟨rfl,_,Eq.trans (World.drewN_drewN _ _ _) (congrArg (World.drewN _) (Nat.add_assoc _ _ _))⟩)))
          repeat (go_quiet (first|(go_at_call 34;(with_reducible refine (spec_ChargeOk.calls ((rd_T43 l0 x3_1).f2.f0) ((rd_T43 l0 x3_1).f2.f1) ((rd_T43 l0 x3_1).f2.f2) true _ A8.out).mono ?_);rintro e w17 ⟨rfl,hb⟩;have n_:=an_ (blk_below (g:=Ka) (o:=.cells #[.int .i64 ((rd_T43 l0 x3_1).f0),.int .i64 ((rd_T43 l0 x3_1).f1),.int .i64 ((rd_T43 l0 x3_1).f2.f0),.int .i64 ((rd_T43 l0 x3_1).f2.f1),.int .i64 ((rd_T43 l0 x3_1).f2.f2),.slice A109_5 ((rd_T43 l0 x3_1).f3).length c109_5] 43 (0,0)) Z0 hb)<|Aside0.mk (below_step (pB_ HB.out) hb);clear Ja HB;obtain ⟨Ja,HB⟩:=n_;(try clear hb);(try clear hb2);(try clear hk);(try clear hi);have Xe:w17.cell? ⟨Ka,0,none⟩=some (.int .i64 ((rd_T43 l0 x3_1).f0)):=(blk_cell Ja.out 0).trans rfl;have Jf:w17.cell? ⟨Ka,1,none⟩=some (.int .i64 ((rd_T43 l0 x3_1).f1)):=(blk_cell Ja.out 1).trans rfl;have Kf:w17.cell? ⟨Ka,2,none⟩=some (.int .i64 ((rd_T43 l0 x3_1).f2.f0)):=(blk_cell Ja.out 2).trans rfl;have Mf:w17.cell? ⟨Ka,3,none⟩=some (.int .i64 ((rd_T43 l0 x3_1).f2.f1)):=(blk_cell Ja.out 3).trans rfl;have Of:w17.cell? ⟨Ka,4,none⟩=some (.int .i64 ((rd_T43 l0 x3_1).f2.f2)):=(blk_cell Ja.out 4).trans rfl;have Uf:w17.cell? ⟨Ka,5,none⟩=some (.slice A109_5 ((rd_T43 l0 x3_1).f3).length c109_5):=(blk_cell Ja.out 5).trans rfl;have Xf:=blk_frozen Ja.out 0;have Jg:=blk_frozen Ja.out 1;have Kg:=blk_frozen Ja.out 2;have Mg:=blk_frozen Ja.out 3;have Og:=blk_frozen Ja.out 4;have Ug:=blk_frozen Ja.out 5)|(go_at_call 35;(with_reducible refine (spec_Stride.calls ((rd_T43 l0 x3_1).f1) Ma _ A10.out).mono ?_);rintro e w' ⟨rfl,⟨nd,rfl⟩⟩;(try first|exact ⟨rfl,_,World.drewN_drewN _ _ _⟩|exact ⟨rfl,_,Eq.trans (World.drewN_drewN _ _ _) (congrArg (World.drewN _) (Nat.add_assoc _ _ _))⟩)));try go_wp2_with (first|(go_at_call 34;(with_reducible refine (spec_ChargeOk.calls ((rd_T43 l0 x3_1).f2.f0) ((rd_T43 l0 x3_1).f2.f1) ((rd_T43 l0 x3_1).f2.f2) true _ A8.out).mono ?_);rintro e w17 ⟨rfl,hb⟩;have n_:=an_ (blk_below (g:=Ka) (o:=.cells #[.int .i64 ((rd_T43 l0 x3_1).f0),.int .i64 ((rd_T43 l0 x3_1).f1),.int .i64 ((rd_T43 l0 x3_1).f2.f0),.int .i64 ((rd_T43 l0 x3_1).f2.f1),.int .i64 ((rd_T43 l0 x3_1).f2.f2),.slice A109_5 ((rd_T43 l0 x3_1).f3).length c109_5] 43 (0,0)) Z0 hb)<|Aside0.mk (below_step (pB_ HB.out) hb);clear Ja HB;obtain ⟨Ja,HB⟩:=n_;(try clear hb);(try clear hb2);(try clear hk);(try clear hi);have Xe:w17.cell? ⟨Ka,0,none⟩=some (.int .i64 ((rd_T43 l0 x3_1).f0)):=(blk_cell Ja.out 0).trans rfl;have Jf:w17.cell? ⟨Ka,1,none⟩=some (.int .i64 ((rd_T43 l0 x3_1).f1)):=(blk_cell Ja.out 1).trans rfl;have Kf:w17.cell? ⟨Ka,2,none⟩=some (.int .i64 ((rd_T43 l0 x3_1).f2.f0)):=(blk_cell Ja.out 2).trans rfl;have Mf:w17.cell? ⟨Ka,3,none⟩=some (.int .i64 ((rd_T43 l0 x3_1).f2.f1)):=(blk_cell Ja.out 3).trans rfl;have Of:w17.cell? ⟨Ka,4,none⟩=some (.int .i64 ((rd_T43 l0 x3_1).f2.f2)):=(blk_cell Ja.out 4).trans rfl;have Uf:w17.cell? ⟨Ka,5,none⟩=some (.slice A109_5 ((rd_T43 l0 x3_1).f3).length c109_5):=(blk_cell Ja.out 5).trans rfl;have Xf:=blk_frozen Ja.out 0;have Jg:=blk_frozen Ja.out 1;have Kg:=blk_frozen Ja.out 2;have Mg:=blk_frozen Ja.out 3;have Og:=blk_frozen Ja.out 4;have Ug:=blk_frozen Ja.out 5)|(go_at_call 35;(with_reducible refine (spec_Stride.calls ((rd_T43 l0 x3_1).f1) Ma _ A10.out).mono ?_);rintro e w' ⟨rfl,⟨nd,rfl⟩⟩;(try first|exact ⟨rfl,_,World.drewN_drewN _ _ _⟩|exact ⟨rfl,_,Eq.trans (World.drewN_drewN _ _ _) (congrArg (World.drewN _) (Nat.add_assoc _ _ _))⟩))))
          go_meet
          case rel => exact ⟨_, (true), Z9, H', ⟨by have := HK1.out; first | omega | exact Nat.le_refl _⟩, ⟨pk_ Ja.out⟩, ⟨pB_ HB.out⟩⟩
         ·rw [if_neg c15] at H
          have c15b0:decide (10000 < (((rd_T43 l0 x3_1).f3).length:Int))=false:=decide_eq_false c15;have c15b1:decide (10000 < ((rd_T43 l0 x3_1).f3).length)=false:=decide_eq_false (by omega);clear c15;obtain ⟨Xg,A190,H⟩:=Option.bind_eq_some_iff.mp H;(try dsimp only at H);have A19:=Aside0.mk A190;clear A190;have H':=Aside0.mk H;clear H;obtain ⟨Mo,Oo,Uo,Xo,Jp,Kp,Mp,Op,Up,Xp,Jq,Kq⟩:=cells6 Ja.out
          go_wp2_with (first|(go_at_call 34;(with_reducible refine (spec_ChargeOk.calls ((rd_T43 l0 x3_1).f2.f0) ((rd_T43 l0 x3_1).f2.f1) ((rd_T43 l0 x3_1).f2.f2) true _ A8.out).mono ?_);rintro e w21 ⟨rfl,hb⟩;have n_:=an_ (blk_below (g:=Ka) (o:=.cells #[.int .i64 ((rd_T43 l0 x3_1).f0),.int .i64 ((rd_T43 l0 x3_1).f1),.int .i64 ((rd_T43 l0 x3_1).f2.f0),.int .i64 ((rd_T43 l0 x3_1).f2.f1),.int .i64 ((rd_T43 l0 x3_1).f2.f2),.slice A109_5 ((rd_T43 l0 x3_1).f3).length c109_5] 43 (0,0)) Z0 hb)<|Aside0.mk (below_step (pB_ HB.out) hb);clear Ja HB;obtain ⟨Ja,HB⟩:=n_;(try clear hb);(try clear hb2);(try clear hk);(try clear hi);have Jh:w21.cell? ⟨Ka,0,none⟩=some (.int .i64 ((rd_T43 l0 x3_1).f0)):=(blk_cell Ja.out 0).trans rfl;have Kh:w21.cell? ⟨Ka,1,none⟩=some (.int .i64 ((rd_T43 l0 x3_1).f1)):=(blk_cell Ja.out 1).trans rfl;have Mh:w21.cell? ⟨Ka,2,none⟩=some (.int .i64 ((rd_T43 l0 x3_1).f2.f0)):=(blk_cell Ja.out 2).trans rfl;have Oh:w21.cell? ⟨Ka,3,none⟩=some (.int .i64 ((rd_T43 l0 x3_1).f2.f1)):=(blk_cell Ja.out 3).trans rfl;have Uh:w21.cell? ⟨Ka,4,none⟩=some (.int .i64 ((rd_T43 l0 x3_1).f2.f2)):=(blk_cell Ja.out 4).trans rfl;have Xh:w21.cell? ⟨Ka,5,none⟩=some (.slice A109_5 ((rd_T43 l0 x3_1).f3).length c109_5):=(blk_cell Ja.out 5).trans rfl;have Ji:=blk_frozen Ja.out 0;have Ki:=blk_frozen Ja.out 1;have Mi:=blk_frozen Ja.out 2;have Oi:=blk_frozen Ja.out 3;have Ui:=blk_frozen Ja.out 4;have Xi:=blk_frozen Ja.out 5)|(go_at_call 35;(with_reducible refine (spec_Stride.calls ((rd_T43 l0 x3_1).f1) Ma _ A10.out).mono ?_);rintro e w' ⟨rfl,⟨nd,rfl⟩⟩;(try first|exact ⟨rfl,_,World.drewN_drewN _ _ _⟩|exact ⟨rfl,_,Eq.trans (World.drewN_drewN _ _ _) (congrArg (World.drewN _) (Nat.add_assoc _ _ _))⟩))|(go_at_call 36;(with_reducible refine (spec_l19In.calls k1 _ _ ((rd_T43 l0 x3_1).f3) ((rd_T43 l0 x3_1).f0) Xg _ ?side1 ?side2 A19.out).mono ?_);(case side1=>exact pC_ (Kd.C_below HR109_5.out (pB_ HB.out)));(case side2=>exact HC109_5.out);rintro e w' ⟨rfl,⟨nd,rfl⟩⟩;(try first|exact ⟨rfl,_,World.drewN_drewN _ _ _⟩|exact ⟨rfl,_,Eq.trans (World.drewN_drewN _ _ _) (congrArg (World.drewN _) (Nat.add_assoc _ _ _))⟩)))
          repeat (go_quiet (first|(go_at_call 34;(with_reducible refine (spec_ChargeOk.calls ((rd_T43 l0 x3_1).f2.f0) ((rd_T43 l0 x3_1).f2.f1) ((rd_T43 l0 x3_1).f2.f2) true _ A8.out).mono ?_);rintro e w21 ⟨rfl,hb⟩;have n_:=an_ (blk_below (g:=Ka) (o:=.cells #[.int .i64 ((rd_T43 l0 x3_1).f0),.int .i64 ((rd_T43 l0 x3_1).f1),.int .i64 ((rd_T43 l0 x3_1).f2.f0),.int .i64 ((rd_T43 l0 x3_1).f2.f1),.int .i64 ((rd_T43 l0 x3_1).f2.f2),.slice A109_5 ((rd_T43 l0 x3_1).f3).length c109_5] 43 (0,0)) Z0 hb)<|Aside0.mk (below_step (pB_ HB.out) hb);clear Ja HB;obtain ⟨Ja,HB⟩:=n_;(try clear hb);(try clear hb2);(try clear hk);(try clear hi);have Jh:w21.cell? ⟨Ka,0,none⟩=some (.int .i64 ((rd_T43 l0 x3_1).f0)):=(blk_cell Ja.out 0).trans rfl;have Kh:w21.cell? ⟨Ka,1,none⟩=some (.int .i64 ((rd_T43 l0 x3_1).f1)):=(blk_cell Ja.out 1).trans rfl;have Mh:w21.cell? ⟨Ka,2,none⟩=some (.int .i64 ((rd_T43 l0 x3_1).f2.f0)):=(blk_cell Ja.out 2).trans rfl;have Oh:w21.cell? ⟨Ka,3,none⟩=some (.int .i64 ((rd_T43 l0 x3_1).f2.f1)):=(blk_cell Ja.out 3).trans rfl;have Uh:w21.cell? ⟨Ka,4,none⟩=some (.int .i64 ((rd_T43 l0 x3_1).f2.f2)):=(blk_cell Ja.out 4).trans rfl;have Xh:w21.cell? ⟨Ka,5,none⟩=some (.slice A109_5 ((rd_T43 l0 x3_1).f3).length c109_5):=(blk_cell Ja.out 5).trans rfl;have Ji:=blk_frozen Ja.out 0;have Ki:=blk_frozen Ja.out 1;have Mi:=blk_frozen Ja.out 2;have Oi:=blk_frozen Ja.out 3;have Ui:=blk_frozen Ja.out 4;have Xi:=blk_frozen Ja.out 5)|(go_at_call 35;(with_reducible refine (spec_Stride.calls ((rd_T43 l0 x3_1).f1) Ma _ A10.out).mono ?_);rintro e w' ⟨rfl,⟨nd,rfl⟩⟩;(try first|exact ⟨rfl,_,World.drewN_drewN _ _ _⟩|exact ⟨rfl,_,Eq.trans (World.drewN_drewN _ _ _) (congrArg (World.drewN _) (Nat.add_assoc _ _ _))⟩))|(go_at_call 36;(with_reducible refine (spec_l19In.calls k1 _ _ ((rd_T43 l0 x3_1).f3) ((rd_T43 l0 x3_1).f0) Xg _ ?side1 ?side2 A19.out).mono ?_);(case side1=>exact pC_ (Kd.C_below HR109_5.out (pB_ HB.out)));(case side2=>exact HC109_5.out);rintro e w' ⟨rfl,⟨nd,rfl⟩⟩;(try first|exact ⟨rfl,_,World.drewN_drewN _ _ _⟩|exact ⟨rfl,_,Eq.trans (World.drewN_drewN _ _ _) (congrArg (World.drewN _) (Nat.add_assoc _ _ _))⟩)));try go_wp2_with (first|(go_at_call 34;(with_reducible refine (spec_ChargeOk.calls ((rd_T43 l0 x3_1).f2.f0) ((rd_T43 l0 x3_1).f2.f1) ((rd_T43 l0 x3_1).f2.f2) true _ A8.out).mono ?_);rintro e w21 ⟨rfl,hb⟩;have n_:=an_ (blk_below (g:=Ka) (o:=.cells #[.int .i64 ((rd_T43 l0 x3_1).f0),.int .i64 ((rd_T43 l0 x3_1).f1),.int .i64 ((rd_T43 l0 x3_1).f2.f0),.int .i64 ((rd_T43 l0 x3_1).f2.f1),.int .i64 ((rd_T43 l0 x3_1).f2.f2),.slice A109_5 ((rd_T43 l0 x3_1).f3).length c109_5] 43 (0,0)) Z0 hb)<|Aside0.mk (below_step (pB_ HB.out) hb);clear Ja HB;obtain ⟨Ja,HB⟩:=n_;(try clear hb);(try clear hb2);(try clear hk);(try clear hi);have Jh:w21.cell? ⟨Ka,0,none⟩=some (.int .i64 ((rd_T43 l0 x3_1).f0)):=(blk_cell Ja.out 0).trans rfl;have Kh:w21.cell? ⟨Ka,1,none⟩=some (.int .i64 ((rd_T43 l0 x3_1).f1)):=(blk_cell Ja.out 1).trans rfl;have Mh:w21.cell? ⟨Ka,2,none⟩=some (.int .i64 ((rd_T43 l0 x3_1).f2.f0)):=(blk_cell Ja.out 2).trans rfl;have Oh:w21.cell? ⟨Ka,3,none⟩=some (.int .i64 ((rd_T43 l0 x3_1).f2.f1)):=(blk_cell Ja.out 3).trans rfl;have Uh:w21.cell? ⟨Ka,4,none⟩=some (.int .i64 ((rd_T43 l0 x3_1).f2.f2)):=(blk_cell Ja.out 4).trans rfl;have Xh:w21.cell? ⟨Ka,5,none⟩=some (.slice A109_5 ((rd_T43 l0 x3_1).f3).length c109_5):=(blk_cell Ja.out 5).trans rfl;have Ji:=blk_frozen Ja.out 0;have Ki:=blk_frozen Ja.out 1;have Mi:=blk_frozen Ja.out 2;have Oi:=blk_frozen Ja.out 3;have Ui:=blk_frozen Ja.out 4;have Xi:=blk_frozen Ja.out 5)|(go_at_call 35;(with_reducible refine (spec_Stride.calls ((rd_T43 l0 x3_1).f1) Ma _ A10.out).mono ?_);rintro e w' ⟨rfl,⟨nd,rfl⟩⟩;(try first|exact ⟨rfl,_,World.drewN_drewN _ _ _⟩|exact ⟨rfl,_,Eq.trans (World.drewN_drewN _ _ _) (congrArg (World.drewN _) (Nat.add_assoc _ _ _))⟩))|(go_at_call 36;(with_reducible refine (spec_l19In.calls k1 _ _ ((rd_T43 l0 x3_1).f3) ((rd_T43 l0 x3_1).f0) Xg _ ?side1 ?side2 A19.out).mono ?_);(case side1=>exact pC_ (Kd.C_below HR109_5.out (pB_ HB.out)));(case side2=>exact HC109_5.out);rintro e w' ⟨rfl,⟨nd,rfl⟩⟩;(try first|exact ⟨rfl,_,World.drewN_drewN _ _ _⟩|exact ⟨rfl,_,Eq.trans (World.drewN_drewN _ _ _) (congrArg (World.drewN _) (Nat.add_assoc _ _ _))⟩))))
          go_meet
          case rel => exact ⟨_, (!Xg), Z9, H', ⟨by have := HK1.out; first | omega | exact Nat.le_refl _⟩, ⟨pk_ Ja.out⟩, ⟨pB_ HB.out⟩⟩
       ·replace c9 := Bool.eq_false_iff.mpr c9
        subst c9; rw [if_neg (show ¬ (false = true) by decide)] at H; have H' := Aside0.mk H; clear H; obtain ⟨Mq, Oq, Uq, Xq, Jr, Kr, Mr, Or, Ur, Xr, Js, Ks⟩ := cells6 Ja.out
        go_wp2_with (first|(go_at_call 34;(with_reducible refine (spec_ChargeOk.calls ((rd_T43 l0 x3_1).f2.f0) ((rd_T43 l0 x3_1).f2.f1) ((rd_T43 l0 x3_1).f2.f2) false _ A8.out).mono ?_);rintro e w24 ⟨rfl,hb⟩;have n_:=an_ (blk_below (g:=Ka) (o:=.cells #[.int .i64 ((rd_T43 l0 x3_1).f0),.int .i64 ((rd_T43 l0 x3_1).f1),.int .i64 ((rd_T43 l0 x3_1).f2.f0),.int .i64 ((rd_T43 l0 x3_1).f2.f1),.int .i64 ((rd_T43 l0 x3_1).f2.f2),.slice A109_5 ((rd_T43 l0 x3_1).f3).length c109_5] 43 (0,0)) Z0 hb)<|Aside0.mk (below_step (pB_ HB.out) hb);clear Ja HB;obtain ⟨Ja,HB⟩:=n_;(try clear hb);(try clear hb2);(try clear hk);(try clear hi)))
        repeat (go_quiet (first|(go_at_call 34;(with_reducible refine (spec_ChargeOk.calls ((rd_T43 l0 x3_1).f2.f0) ((rd_T43 l0 x3_1).f2.f1) ((rd_T43 l0 x3_1).f2.f2) false _ A8.out).mono ?_);rintro e w24 ⟨rfl,hb⟩;have n_:=an_ (blk_below (g:=Ka) (o:=.cells #[.int .i64 ((rd_T43 l0 x3_1).f0),.int .i64 ((rd_T43 l0 x3_1).f1),.int .i64 ((rd_T43 l0 x3_1).f2.f0),.int .i64 ((rd_T43 l0 x3_1).f2.f1),.int .i64 ((rd_T43 l0 x3_1).f2.f2),.slice A109_5 ((rd_T43 l0 x3_1).f3).length c109_5] 43 (0,0)) Z0 hb)<|Aside0.mk (below_step (pB_ HB.out) hb);clear Ja HB;obtain ⟨Ja,HB⟩:=n_;(try clear hb);(try clear hb2);(try clear hk);(try clear hi)));try go_wp2_with (first|(go_at_call 34;(with_reducible refine (spec_ChargeOk.calls ((rd_T43 l0 x3_1).f2.f0) ((rd_T43 l0 x3_1).f2.f1) ((rd_T43 l0 x3_1).f2.f2) false _ A8.out).mono ?_);rintro e w24 ⟨rfl,hb⟩;have n_:=an_ (blk_below (g:=Ka) (o:=.cells #[.int .i64 ((rd_T43 l0 x3_1).f0),.int .i64 ((rd_T43 l0 x3_1).f1),.int .i64 ((rd_T43 l0 x3_1).f2.f0),.int .i64 ((rd_T43 l0 x3_1).f2.f1),.int .i64 ((rd_T43 l0 x3_1).f2.f2),.slice A109_5 ((rd_T43 l0 x3_1).f3).length c109_5] 43 (0,0)) Z0 hb)<|Aside0.mk (below_step (pB_ HB.out) hb);clear Ja HB;obtain ⟨Ja,HB⟩:=n_;(try clear hb);(try clear hb2);(try clear hk);(try clear hi))))
        go_meet
        case rel => exact ⟨_, (true), Z9, H', ⟨by have := HK1.out; first | omega | exact Nat.le_refl _⟩, ⟨pk_ Ja.out⟩, ⟨pB_ HB.out⟩⟩
      case rest =>
       clear HC5
       try clear c1
       try clear p1
       try clear q1
       try clear hx1
       try clear c2
       try clear c2b0
       try clear c2b1
       try clear p2
       try clear c3
       try clear c3b0
       try clear c4
       try clear c4b0
       try clear c9
       try clear c10
       try clear p10
       try clear q10
       try clear hx10
       try clear c11
       try clear c11b0
       try clear c11b1
       try clear c15
       try clear c15b0
       try clear c15b1
       try clear c23
       try clear Mj Oj Uj Xj Jk Kk Mk Ok Uk Xk Jm Km
       try clear Uc Xc Jd Md Od Ud Xd Je Ke Me Oe Ue
       try clear Mm Om Um Xm Jn Kn Mn On Un Xn Jo Ko
       try clear Xe Jf Kf Mf Of Uf Xf Jg Kg Mg Og Ug
       try clear Mo Oo Uo Xo Jp Kp Mp Op Up Xp Jq Kq
       try clear Jh Kh Mh Oh Uh Xh Ji Ki Mi Oi Ui Xi
       try clear Mq Oq Uq Xq Jr Kr Mr Or Ur Xr Js Ks
       try clear Oa Ua Xa Jb Kb Mb Ob Ub Xb Jc Kc Mc
       try clear hx109_0 hx109_1 hx109_2 hx109_3 hx109_4 hx109_5
       try clear p109
       try clear p2
       try clear q109
       obtain ⟨kq, Oc, rfl, HA, HJ4, Ja, HB⟩ := hcut
       cases kq with
       | zero => exact absurd HA.out (by simp [spec_DealsOk.j1])
       | succ kj4 =>
        have H := HA.out; clear HA; simp only [spec_DealsOk.j1] at H
        by_cases c25 : Oc = true
        ·subst c25
         rw [if_pos rfl] at H; obtain rfl := Option.some.inj H
         go_wp2
         repeat (go_quiet (fail); try go_wp2)
         go_ret; exact ⟨by first | rfl | (simp [errW_none, errW_some] <;> rfl) | (simp [*, errW_none, errW_some] <;> rfl), pB_ HB.out⟩
        ·replace c25 := Bool.eq_false_iff.mpr c25
         subst c25; rw [if_neg (show ¬ (false = true) by decide)] at H; have H' := Aside0.mk H; clear H
         go_wp2
         repeat (go_quiet (fail); try go_wp2)
         go_loopg [5] kj4 (fun kq v5 w'=>∃ (x5_3:Int),v5=.int .i64 x5_3∧Aside0 (spec_DealsOk.l1 kq l0 x3_1 x5_3 ((rd_T43 l0 x3_1).f0) ((rd_T43 l0 x3_1).f1) ((rd_T43 l0 x3_1).f2.f0) ((rd_T43 l0 x3_1).f2.f1) ((rd_T43 l0 x3_1).f2.f2) ((rd_T43 l0 x3_1).f3)=some r)∧Aside0 (kq≤kj4)∧Aside0 (w'.heap[Ka]?=some (.cells #[.int .i64 ((rd_T43 l0 x3_1).f0),.int .i64 ((rd_T43 l0 x3_1).f1),.int .i64 ((rd_T43 l0 x3_1).f2.f0),.int .i64 ((rd_T43 l0 x3_1).f2.f1),.int .i64 ((rd_T43 l0 x3_1).f2.f2),(.slice A109_5 ((rd_T43 l0 x3_1).f3).length c109_5)] 43 (0,0)))∧Aside0 (Below w.heap.size w w'))
         case atStart => exact ⟨(0), Z9, H', ⟨Nat.le_refl _⟩, ⟨pk_ Ja.out⟩, ⟨pB_ HB.out⟩⟩
         case round =>
          clear H'
          try clear c1
          try clear p1
          try clear q1
          try clear hx1
          try clear c2
          try clear c2b0
          try clear c2b1
          try clear p2
          try clear c3
          try clear c3b0
          try clear c4
          try clear c4b0
          try clear c9
          try clear c10
          try clear p10
          try clear q10
          try clear hx10
          try clear c11
          try clear c11b0
          try clear c11b1
          try clear c15
          try clear c15b0
          try clear c15b1
          try clear c23
          try clear c25
          try clear Mj Oj Uj Xj Jk Kk Mk Ok Uk Xk Jm Km
          try clear Uc Xc Jd Md Od Ud Xd Je Ke Me Oe Ue
          try clear Mm Om Um Xm Jn Kn Mn On Un Xn Jo Ko
          try clear Xe Jf Kf Mf Of Uf Xf Jg Kg Mg Og Ug
          try clear Mo Oo Uo Xo Jp Kp Mp Op Up Xp Jq Kq
          try clear Jh Kh Mh Oh Uh Xh Ji Ki Mi Oi Ui Xi
          try clear Mq Oq Uq Xq Jr Kr Mr Or Ur Xr Js Ks
          try clear Oa Ua Xa Jb Kb Mb Ob Ub Xb Jc Kc Mc
          try clear hx109_0 hx109_1 hx109_2 hx109_3 hx109_4 hx109_5
          try clear p1
          try clear p10
          try clear p109
          try clear p2
          try clear q1
          try clear q10
          try clear q109
          obtain ⟨x5_3, rfl, HA, HK3, Ja, HB⟩ := hrel
          cases gk with
          | zero => exact absurd HA.out (by simp [spec_DealsOk.l1])
          | succ k3 =>
           have H := HA.out; clear HA; simp only [spec_DealsOk.l1] at H
           by_cases c26 : x5_3 < (((rd_T43 l0 x3_1).f3).length : Int)
           ·rw [if_pos c26] at H
            have c26b0 : decide (x5_3 < (((rd_T43 l0 x3_1).f3).length : Int)) = true := decide_eq_true c26; clear c26
            by_cases c27 : 0 ≤ x5_3
            ·rw [if_pos c27] at H
             have c27b0 : decide (0 ≤ x5_3) = true := decide_eq_true c27; clear c27
             by_cases c28 : (rd ((rd_T43 l0 x3_1).f3) x5_3) < 0
             ·rw [if_pos c28] at H
              have c28b0:decide ((rd ((rd_T43 l0 x3_1).f3) x5_3) < 0)=true:=decide_eq_true c28;clear c28;obtain rfl:=Option.some.inj H;obtain ⟨Us,Xs,Ju,Ku,Mu,Ou,Uu,Xu,Jv,Kv,Mv,Ov⟩:=cells6 Ja.out;have p114:0≤(x5_3:Int):=of_decide_eq_true Z8;have q114:x5_3 < (((rd_T43 l0 x3_1).f3).length:Int):=of_decide_eq_true Z8;obtain ⟨ad114,e114,hx114_0⟩:=Kd.at_int HR109_5.out x5_3 p114 q114;cases e114;replace hx114_0:=(HB.out.cell (World.block_lt_of_cell? w _ hx114_0)).trans hx114_0;replace p114:=eq_true p114;replace q114:=eq_true q114
              go_wp2
              repeat (go_quiet (fail); try go_wp2)
              go_ret; exact ⟨by first | rfl | (simp [errW_none, errW_some] <;> rfl) | (simp [*, errW_none, errW_some] <;> rfl), pB_ HB.out⟩
             ·rw [if_neg c28] at H
              have c28b0 : decide ((rd ((rd_T43 l0 x3_1).f3) x5_3) < 0) = false := decide_eq_false c28; clear c28
              by_cases c30 : (rd ((rd_T43 l0 x3_1).f3) x5_3) > 9999
              ·rw [if_pos c30] at H
               have c30b0:decide (9999 < (rd ((rd_T43 l0 x3_1).f3) x5_3))=true:=decide_eq_true c30;clear c30;obtain rfl:=Option.some.inj H;obtain ⟨Uv,Xv,Jx,Kx,Mx,Ox,Ux,Xx,Jy,Ky,My,Oy⟩:=cells6 Ja.out;have p114:0≤(x5_3:Int):=of_decide_eq_true Z8;have q114:x5_3 < (((rd_T43 l0 x3_1).f3).length:Int):=of_decide_eq_true Z8;obtain ⟨ad114,e114,hx114_0⟩:=Kd.at_int HR109_5.out x5_3 p114 q114;cases e114;replace hx114_0:=(HB.out.cell (World.block_lt_of_cell? w _ hx114_0)).trans hx114_0;replace p114:=eq_true p114;replace q114:=eq_true q114;have p115:0≤(x5_3:Int):=of_decide_eq_true Z8;have q115:x5_3 < (((rd_T43 l0 x3_1).f3).length:Int):=of_decide_eq_true Z8;obtain ⟨ad115,e115,hx115_0⟩:=Kd.at_int HR109_5.out x5_3 p115 q115;obtain rfl:ad114=ad115:=(by injection e115);replace hx115_0:=(HB.out.cell (World.block_lt_of_cell? w _ hx115_0)).trans hx115_0;replace p115:=eq_true p115;replace q115:=eq_true q115
               go_wp2
               repeat (go_quiet (fail); try go_wp2)
               go_ret; exact ⟨by first | rfl | (simp [errW_none, errW_some] <;> rfl) | (simp [*, errW_none, errW_some] <;> rfl), pB_ HB.out⟩
              ·rw [if_neg c30] at H
               have c30b0 : decide (9999 < (rd ((rd_T43 l0 x3_1).f3) x5_3)) = false := decide_eq_false c30; clear c30
               by_cases c32 : x5_3 > 0
               ·rw [if_pos c32] at H
                have c32b0 : decide (0 < x5_3) = true := decide_eq_true c32; clear c32; obtain ⟨ji33, hji33⟩ : ∃ j_ : Int, (wrap64 (x5_3 - 1)) = j_ := ⟨_, rfl⟩
                replace H:(if 0≤(ji33) then (if (ji33) < (((rd_T43 l0 x3_1).f3).length:Int) then (if (rd ((rd_T43 l0 x3_1).f3) (ji33)) ≥ (rd ((rd_T43 l0 x3_1).f3) x5_3) then (some false) else (spec_DealsOk.l1 k3 l0 x3_1 (wrap64 (x5_3 + 1)) ((rd_T43 l0 x3_1).f0) ((rd_T43 l0 x3_1).f1) ((rd_T43 l0 x3_1).f2.f0) ((rd_T43 l0 x3_1).f2.f1) ((rd_T43 l0 x3_1).f2.f2) ((rd_T43 l0 x3_1).f3))) else (none)) else (none))=some r:=by first|(rw [hji33] at H;exact H)|(simp only [hji33] at H ⊢;exact H)
                have hji33w : (IntKind.i64.wrap (x5_3 - 1)) = ji33 := (i64_w _).trans hji33
                by_cases c34 : 0 ≤ (ji33)
                ·rw [if_pos c34] at H
                 have c34b0 : decide (0 ≤ (ji33)) = true := decide_eq_true c34; clear c34
                 by_cases c35 : (ji33) < (((rd_T43 l0 x3_1).f3).length : Int)
                 ·rw [if_pos c35] at H
                  have c35b0:decide ((ji33) < (((rd_T43 l0 x3_1).f3).length:Int))=true:=decide_eq_true c35;clear c35;have HU36:=Aside0.mk H;clear H;obtain ⟨Uy,Xy,Jz,Kz,Mz,Oz,Uz,Xz,Ja1,Ka1,Ma1,Oa1⟩:=cells6 Ja.out;have p114:0≤(x5_3:Int):=of_decide_eq_true Z8;have q114:x5_3 < (((rd_T43 l0 x3_1).f3).length:Int):=of_decide_eq_true Z8;obtain ⟨ad114,e114,hx114_0⟩:=Kd.at_int HR109_5.out x5_3 p114 q114;cases e114;replace hx114_0:=(HB.out.cell (World.block_lt_of_cell? w _ hx114_0)).trans hx114_0;replace p114:=eq_true p114;replace q114:=eq_true q114;have p115:0≤(x5_3:Int):=of_decide_eq_true Z8;have q115:x5_3 < (((rd_T43 l0 x3_1).f3).length:Int):=of_decide_eq_true Z8;obtain ⟨ad115,e115,hx115_0⟩:=Kd.at_int HR109_5.out x5_3 p115 q115;obtain rfl:ad114=ad115:=(by injection e115);replace hx115_0:=(HB.out.cell (World.block_lt_of_cell? w _ hx115_0)).trans hx115_0;replace p115:=eq_true p115;replace q115:=eq_true q115;have p116:0≤((ji33):Int):=of_decide_eq_true Z8;have q116:(ji33) < (((rd_T43 l0 x3_1).f3).length:Int):=of_decide_eq_true Z8;obtain ⟨ad116,e116,hx116_0⟩:=Kd.at_int HR109_5.out (ji33) p116 q116;obtain rfl:ad114=ad116:=(by injection e116);replace hx116_0:=(HB.out.cell (World.block_lt_of_cell? w _ hx116_0)).trans hx116_0;replace p116:=eq_true p116;replace q116:=eq_true q116;have p117:0≤(x5_3:Int):=of_decide_eq_true Z8;have q117:x5_3 < (((rd_T43 l0 x3_1).f3).length:Int):=of_decide_eq_true Z8;obtain ⟨ad117,e117,hx117_0⟩:=Kd.at_int HR109_5.out x5_3 p117 q117;obtain rfl:ad114=ad117:=(by injection e117);replace hx117_0:=(HB.out.cell (World.block_lt_of_cell? w _ hx117_0)).trans hx117_0;replace p117:=eq_true p117;replace q117:=eq_true q117
                  go_upto_if 81 with (fail)
                  repeat (go_quiet (fail); go_upto_if 81 with (fail))
                  have H := HU36.out; clear HU36
                  by_cases c38 : (rd ((rd_T43 l0 x3_1).f3) (ji33)) ≥ (rd ((rd_T43 l0 x3_1).f3) x5_3)
                  ·rw [if_pos c38] at H
                   have c38b0:decide ((rd ((rd_T43 l0 x3_1).f3) x5_3)≤(rd ((rd_T43 l0 x3_1).f3) (ji33)))=true:=decide_eq_true c38;clear c38;(first|rw [c38b0]|(simp only [i64_w,i32_w];rw [c38b0])|(have cz_:=c38b0;simp only [bne,gt_iff_lt,Int.natCast_pos] at cz_;first|rw [cz_]|(simp only [i64_w,i32_w];rw [cz_]))|skip);obtain rfl:=Option.some.inj H
                   go_wp2
                   repeat (go_quiet (fail); try go_wp2)
                   go_ret;exact ⟨by first|rfl|(simp [errW_none,errW_some] <;> rfl)|(simp only [← hji33];first|rfl|(simp [errW_none,errW_some] <;> rfl))|(simp [*,errW_none,errW_some] <;> rfl),pB_ HB.out⟩
                  ·rw [if_neg c38] at H
                   have c38b0:decide ((rd ((rd_T43 l0 x3_1).f3) x5_3)≤(rd ((rd_T43 l0 x3_1).f3) (ji33)))=false:=decide_eq_false c38;clear c38;(first|rw [c38b0]|(simp only [i64_w,i32_w];rw [c38b0])|(have cz_:=c38b0;simp only [bne,gt_iff_lt,Int.natCast_pos] at cz_;first|rw [cz_]|(simp only [i64_w,i32_w];rw [cz_]))|skip);have H':=Aside0.mk H;clear H
                   go_wp2
                   repeat (go_quiet (fail); try go_wp2)
                   go_roundg k3
                   case measure => have := HK1.out; have := HJ4.out; have := HK3.out; omega
                   case rel => exact ⟨(wrap64 (x5_3 + 1)), Z9, H', ⟨by have := HK1.out; have := HJ4.out; have := HK3.out; omega⟩, ⟨pk_ Ja.out⟩, ⟨pB_ HB.out⟩⟩
                 ·rw [if_neg c35] at H
                  exact absurd H (by simp)
                ·rw [if_neg c34] at H
                 exact absurd H (by simp)
               ·rw [if_neg c32] at H
                have c32b0:decide (0 < x5_3)=false:=decide_eq_false c32;clear c32;have H':=Aside0.mk H;clear H;obtain ⟨Ua1,Xa1,Jb1,Kb1,Mb1,Ob1,Ub1,Xb1,Jc1,Kc1,Mc1,Oc1⟩:=cells6 Ja.out;have p114:0≤(x5_3:Int):=of_decide_eq_true Z8;have q114:x5_3 < (((rd_T43 l0 x3_1).f3).length:Int):=of_decide_eq_true Z8;obtain ⟨ad114,e114,hx114_0⟩:=Kd.at_int HR109_5.out x5_3 p114 q114;cases e114;replace hx114_0:=(HB.out.cell (World.block_lt_of_cell? w _ hx114_0)).trans hx114_0;replace p114:=eq_true p114;replace q114:=eq_true q114;have p115:0≤(x5_3:Int):=of_decide_eq_true Z8;have q115:x5_3 < (((rd_T43 l0 x3_1).f3).length:Int):=of_decide_eq_true Z8;obtain ⟨ad115,e115,hx115_0⟩:=Kd.at_int HR109_5.out x5_3 p115 q115;obtain rfl:ad114=ad115:=(by injection e115);replace hx115_0:=(HB.out.cell (World.block_lt_of_cell? w _ hx115_0)).trans hx115_0;replace p115:=eq_true p115;replace q115:=eq_true q115
                go_wp2
                repeat (go_quiet (fail); try go_wp2)
                go_roundg k3
                case measure => have := HK1.out; have := HJ4.out; have := HK3.out; omega
                case rel => exact ⟨(wrap64 (x5_3 + 1)), Z9, H', ⟨by have := HK1.out; have := HJ4.out; have := HK3.out; omega⟩, ⟨pk_ Ja.out⟩, ⟨pB_ HB.out⟩⟩
            ·rw [if_neg c27] at H
             exact absurd H (by simp)
           ·rw [if_neg c26] at H
            have c26b0:decide (x5_3 < (((rd_T43 l0 x3_1).f3).length:Int))=false:=decide_eq_false c26;clear c26;have H':=Aside0.mk H;clear H;obtain ⟨Uc1,Xc1,Jd1,Kd1,Md1,Od1,Ud1,Xd1,Je1,Ke1,Me1,Oe1⟩:=cells6 Ja.out
            go_wp2
            repeat (go_quiet (fail); try go_wp2)
            go_roundg k3
            case measure => have := HK1.out; have := HJ4.out; have := HK3.out; omega
            case rel => exact ⟨(wrap64 (x3_1 + 1)), Z9, H', ⟨by have := HK1.out; have := HJ4.out; have := HK3.out; omega⟩, ⟨pB_ HB.out⟩⟩
     ·rw [if_neg c4] at H
      exact absurd H (by simp)
    ·rw [if_neg c3] at H
     have c3b0 : decide (x3_1 < (l0.length : Int)) = false := decide_eq_false c3; clear c3; obtain rfl := Option.some.inj H
     go_wp2
     repeat (go_quiet (fail); try go_wp2)
     go_ret; exact ⟨by first | rfl | (simp [errW_none, errW_some] <;> rfl) | (simp [*, errW_none, errW_some] <;> rfl), pB_ HB.out⟩

/-! ### spec_l19Span: function 14 -/
def spec_l19Span.f (k : Nat) (l0 : List (S43)) (a1 : Int) (a2 : Int) : Option (Bool) := if a1 ≥ 0 then (if a1 ≤ a2 then (if a2 ≤ (l0.length : Int) then ((spec_DealsOk.f k l0).bind fun Os => (some Os)) else (some false)) else (some false)) else (some false)
set_option maxHeartbeats 8000000 in
set_option maxRecDepth 100000 in
theorem spec_l19Span.calls (k : Nat) (A0 : Option Addr) (c0 : Nat) (l0 : List (S43)) (a1 : Int) (a2 : Int) (r : Bool) (w : World) (hr0 : Kd.C k43 w A0 l0.length l0) (hc0 : l0.length ≤ c0) (h : spec_l19Span.f k l0 a1 a2 = some r) :
  Calls Try.prog 14 #[.slice A0 l0.length c0, .int .i64 a1, .int .i64 a2] w fun e w' => e = .returned (.bool r) ∧ Below w.heap.size w w' := by
 have HR0 := Aside0.mk hr0
 have HC0 := Aside0.mk hc0
 clear hr0 hc0
 have HB := Aside0.mk (Below.refl w.heap.size w)
 have H : (if a1 ≥ 0 then (if a1 ≤ a2 then (if a2 ≤ (l0.length : Int) then ((spec_DealsOk.f k l0).bind fun t118 => (some t118)) else (some false)) else (some false)) else (some false)) = some r := h
 clear h
 by_cases c4 : a1 ≥ 0
 ·rw [if_pos c4] at H
  have c4b0 : decide (0 ≤ a1) = true := decide_eq_true c4; clear c4
  by_cases c5 : a1 ≤ a2
  ·rw [if_pos c5] at H
   have c5b0 : decide (a1 ≤ a2) = true := decide_eq_true c5; clear c5
   by_cases c6 : a2 ≤ (l0.length : Int)
   ·rw [if_pos c6] at H
    have c6b0:decide (a2≤(l0.length:Int))=true:=decide_eq_true c6;clear c6;obtain ⟨t118,A70,H⟩:=Option.bind_eq_some_iff.mp H;(try dsimp only at H);have A7:=Aside0.mk A70;clear A70;obtain rfl:=Option.some.inj H;go_enter Try.func14,Try.ntmps14
    go_wp2_with (first|(go_at_call 23;(with_reducible refine (spec_DealsOk.calls k _ _ l0 t118 _ ?side1 ?side2 A7.out).mono ?_);(case side1=>exact pC_ HR0.out);(case side2=>exact HC0.out);rintro e w8 ⟨rfl,hb⟩;have n0_:=Aside0.mk (below_step (pB_ HB.out) hb);clear HB;have HB:=n0_;clear n0_;(try clear hb);(try clear hb2);(try clear hk);(try clear hi)))
    go_ret; exact ⟨by first | rfl | (simp [errW_none, errW_some] <;> rfl) | (simp [*, errW_none, errW_some] <;> rfl), pB_ HB.out⟩
   ·rw [if_neg c6] at H
    have c6b0 : decide (a2 ≤ (l0.length : Int)) = false := decide_eq_false c6; clear c6; obtain rfl := Option.some.inj H; go_enter Try.func14, Try.ntmps14
    go_wp2
    go_ret; exact ⟨by first | rfl | (simp [errW_none, errW_some] <;> rfl) | (simp [*, errW_none, errW_some] <;> rfl), pB_ HB.out⟩
  ·rw [if_neg c5] at H
   have c5b0 : decide (a1 ≤ a2) = false := decide_eq_false c5; clear c5; obtain rfl := Option.some.inj H; go_enter Try.func14, Try.ntmps14
   go_wp2
   go_ret; exact ⟨by first | rfl | (simp [errW_none, errW_some] <;> rfl) | (simp [*, errW_none, errW_some] <;> rfl), pB_ HB.out⟩
 ·rw [if_neg c4] at H
  have c4b0 : decide (0 ≤ a1) = false := decide_eq_false c4; clear c4; obtain rfl := Option.some.inj H; go_enter Try.func14, Try.ntmps14
  go_wp2
  go_ret; exact ⟨by first | rfl | (simp [errW_none, errW_some] <;> rfl) | (simp [*, errW_none, errW_some] <;> rfl), pB_ HB.out⟩

/-! ### spec_l13List: function 24 -/
def spec_l13List.f (a0_0 : Int) (a0_1 : Int) (a0_2 : Int) : Option (List Int) := some (([a0_0, a0_1, a0_2] : List Int))
set_option maxHeartbeats 8000000 in
set_option maxRecDepth 100000 in
theorem spec_l13List.calls (a0_0 : Int) (a0_1 : Int) (a0_2 : Int) (r : List Int) (w : World) (h : spec_l13List.f a0_0 a0_1 a0_2 = some r) :
  Calls Try.prog 24 #[.agg #[.int .i64 a0_0,.int .i64 a0_1,.int .i64 a0_2]] w fun e w'=>∃ v0_:Value,e=.returned (v0_)∧Kd.R (Kd.int .i64) 3 w' w.heap.size (fun _=>True) v0_ r∧Below w.heap.size w w':=by
 have hu41 := Try.underlying41
 have HB := Aside0.mk (Below.refl w.heap.size w)
 have H : (some (([a0_0, a0_1, a0_2] : List Int))) = some r := h
 clear h
 obtain ⟨y120, hy120⟩ : ∃ y_ : List Int, y_ = (([a0_0, a0_1, a0_2] : List Int)) := ⟨_, rfl⟩
 replace H:(some y120)=some r:=by first|(rw [hy120];with_reducible exact H)|(have H2_:=(Option.bind_some _ _).symm.trans H;rw [hy120];with_reducible exact H2_)|(have H2_:=(Option.bind_some _ _).symm.trans H;with_reducible exact H2_)|with_reducible exact H|(rw [hy120];exact H)|exact H
 have Ny120 := Aside0.mk hy120
 clear hy120
 obtain rfl := Option.some.inj H
 go_enter Try.func24, Try.ntmps24
 go_wp2_with (first|((with_reducible refine gate_dst (N:=1) rfl ?_);refine box_event ?hg (N:=1) ?hd (cs:=#[.int .i64 a0_0,.int .i64 a0_1,.int .i64 a0_2]) (t:=41) ?hr ?_;(case hd=>rfl);(case hg=>rfl);(case hr=>first|(go_simp;done)|(go_simp;rfl));intro gb119 hg w2 hbox hb;have n_:=an_ (below_step (pB_ HB.out) hb)<|an_ (hbox)<|an_ ((by rw [hg];exact (below_size (pB_ HB.out)):w.heap.size≤gb119))<|Aside0.mk ((by rw [hg];exact (below_size (pB_ HB.out)):w.heap.size≤gb119));clear HB;obtain ⟨HB,BK119,GW119,GE119⟩:=n_;clear hb hbox hg;have hcz3_0:w2.cell? ⟨gb119,0,none⟩=some (.int .i64 a0_0):=(blk_cell BK119.out 0).trans rfl;have hcz3_1:w2.cell? ⟨gb119,1,none⟩=some (.int .i64 a0_1):=(blk_cell BK119.out 1).trans rfl;have hcz3_2:w2.cell? ⟨gb119,2,none⟩=some (.int .i64 a0_2):=(blk_cell BK119.out 2).trans rfl;have hfz3_0:=blk_frozen BK119.out 0;have hfz3_1:=blk_frozen BK119.out 1;have hfz3_2:=blk_frozen BK119.out 2)|((with_reducible refine gate_dst (N:=9) rfl ?_);refine Kd.R_lit (Kd.int .i64) _ 3 ?hg (N:=9) ?hd (xs:=([a0_0,a0_1,a0_2]:List Int)) (inner:=[.int .i64 a0_0,.int .i64 a0_1,.int .i64 a0_2]) (ok:=fun _=>True) (okp:=fun _=>True) ?hr ?hp (fun _ hk=>hk) trivial (Below.refl _ _) (Nat.le_refl _) (by simp) ?_;(case hd=>rfl);(case hg=>rfl);(case hr=>first|(go_simp;done)|(go_simp;rfl));(case hp=>exact (Reps.one (show Kd.M (Kd.int .i64) _ _ _ a0_0 [.int .i64 a0_0] from rfl) (Reps.one (show Kd.M (Kd.int .i64) _ _ _ a0_1 [.int .i64 a0_1] from rfl) (Reps.one (show Kd.M (Kd.int .i64) _ _ _ a0_2 [.int .i64 a0_2] from rfl) (Reps.none _ _)))));intro v121 w4 ho5 hb hg_ hnew_;clear hg_ hnew_;(first|rw [← Ny120.out] at ho5|(simp only [Int.reduceToNat] at ho5;rw [← Ny120.out] at ho5));have n_:=an_ (Kd.R_lower ho5 (below_size (pB_ HB.out)))<|an_ (blk_below (pk_ BK119.out) hb)<|Aside0.mk (below_step (pB_ HB.out) hb);clear BK119 HB;obtain ⟨HO122,BK119,HB⟩:=n_;clear hb ho5))
 go_ret
 exact ⟨_,by first|rfl|(simp [errW_none,errW_some] <;> rfl)|(simp [*,errW_none,errW_some] <;> rfl),by (with_reducible repeat (first|apply Kd.R_alloc|apply Kd.R_drewN|apply Kd.R_drew));exact HO122.out,pB_ HB.out⟩

/-! ### spec_VecTop: function 25 -/
def spec_VecTop.f (a0_0 : Int) (a0_1 : Int) (a0_2 : Int) : Option (Int) := some (mx (mx a0_0 a0_1) a0_2)
set_option maxHeartbeats 8000000 in
set_option maxRecDepth 100000 in
theorem spec_VecTop.calls (a0_0 : Int) (a0_1 : Int) (a0_2 : Int) (r : Int) (w : World) (h : spec_VecTop.f a0_0 a0_1 a0_2 = some r) :
  Calls Try.prog 25 #[.agg #[.int .i64 a0_0, .int .i64 a0_1, .int .i64 a0_2]] w fun e w' => e = .returned (.int .i64 r) ∧ Below w.heap.size w w' := by
 have hu41 := Try.underlying41
 have HB := Aside0.mk (Below.refl w.heap.size w)
 have H : (some (mx (mx a0_0 a0_1) a0_2)) = some r := h
 clear h
 obtain ⟨ji2, hji2⟩ : ∃ j_ : Int, (mx a0_0 a0_1) = j_ := ⟨_, rfl⟩
 replace H : (some (mx (ji2) a0_2)) = some r := by first | (rw [hji2] at H; exact H) | (simp only [hji2] at H ⊢; exact H)
 have hji2_ : (if a0_0 < a0_1 then a0_1 else a0_0) = ji2 := hji2
 obtain ⟨ji3, hji3⟩ : ∃ j_ : Int, (mx (ji2) a0_2) = j_ := ⟨_, rfl⟩
 replace H : (some ji3) = some r := by first | (rw [hji3] at H; exact H) | (simp only [hji3] at H ⊢; exact H)
 have hji3_ : (if (ji2) < a0_2 then a0_2 else (ji2)) = ji3 := hji3
 obtain rfl := Option.some.inj H
 go_enter Try.func25, Try.ntmps25
 go_wp2_with (first|((with_reducible refine gate_dst (N:=1) rfl ?_);refine box_event ?hg (N:=1) ?hd (cs:=#[.int .i64 a0_0,.int .i64 a0_1,.int .i64 a0_2]) (t:=41) ?hr ?_;(case hd=>rfl);(case hg=>rfl);(case hr=>first|(go_simp;done)|(go_simp;rfl));intro gb123 hg w4 hbox hb;have n_:=an_ (below_step (pB_ HB.out) hb)<|an_ (hbox)<|an_ ((by rw [hg];exact (below_size (pB_ HB.out)):w.heap.size≤gb123))<|Aside0.mk ((by rw [hg];exact (below_size (pB_ HB.out)):w.heap.size≤gb123));clear HB;obtain ⟨HB,BK123,GW123,GE123⟩:=n_;clear hb hbox hg;have hcz5_0:w4.cell? ⟨gb123,0,none⟩=some (.int .i64 a0_0):=(blk_cell BK123.out 0).trans rfl;have hcz5_1:w4.cell? ⟨gb123,1,none⟩=some (.int .i64 a0_1):=(blk_cell BK123.out 1).trans rfl;have hcz5_2:w4.cell? ⟨gb123,2,none⟩=some (.int .i64 a0_2):=(blk_cell BK123.out 2).trans rfl;have hfz5_0:=blk_frozen BK123.out 0;have hfz5_1:=blk_frozen BK123.out 1;have hfz5_2:=blk_frozen BK123.out 2))
 go_ret
 exact ⟨by first|rfl|(simp [errW_none,errW_some] <;> rfl)|(simp only [← hji2,← hji3];first|rfl|(simp [errW_none,errW_some] <;> rfl))|(simp [*,errW_none,errW_some] <;> rfl),pB_ HB.out⟩

end Go.Proofs.Ytecabogkenabnac.PFnExactMains
