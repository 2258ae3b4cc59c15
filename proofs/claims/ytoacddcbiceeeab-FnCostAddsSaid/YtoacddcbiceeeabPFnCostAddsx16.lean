-- by a program of this session's, over the kit's words
import Derived.Test.YtoacddcbiceeeabPZFnCostAdds
import Derived.Test.YtoacddcbiceeeabPFnCostAddsx0
import Derived.Test.YtoacddcbiceeeabPFnCostAddsx15
namespace Go.Proofs.Ytoacddcbiceeeab.PFnCostAdds
open Go.RowKit Go.Proofs.YtoacddcbiceeeabW.PrintWords Go.Proofs.YtoacddcbiceeeabW.PrintLast Go.Proofs.YtoacddcbiceeeabW.PrintMore Go.Proofs.YtoacddcbiceeeabV Go.Proofs.Ytoacddcbiceeeab.ZFnCostAdds
open Go.Value renaming int → I, slice → Y
open Go.IntKind renaming i64 → L
open Aside0 renaming mk → D
open Option renaming bind_eq_some_iff → bs_
attribute [local go_sem] max2_int min2_int max_two min_two max_three min_three max_four min_four   -- for this text's walks alone
set_option linter.unusedVariables false
set_option linter.unusedSimpArgs false

/-! ### impl_Put32: function 71 -/
def impl_Put32.f (k : Nat) (a0 : Int) : Option (List Int) := (impl_put.f k a0 4).bind fun t583 => (some t583)
set_option maxHeartbeats 8000000 in
set_option maxRecDepth 100000 in
theorem impl_Put32.calls (k : Nat) (a0 : Int) (r : List Int) (w : World) (h : impl_Put32.f k a0 = some r) :
  Calls Try.prog 71 #[I L a0] w fun e w' => ∃ v0_ : Value, e = .returned (v0_) ∧ Kd.R (Kd.int .u8) 5 w' w.heap.size (fun _ => True) v0_ r ∧ Below w.heap.size w w' := by
 have HB := D (Below.refl w.heap.size w)
 have H : ((impl_put.f k a0 4).bind fun t583 => (some t583)) = some r := h
 clear h
 obtain ⟨t583, A20, H⟩ := bs_.mp H
 (try dsimp only at H)
 have A2 := D A20
 clear A20
 obtain rfl := Option.some.inj H
 go_enter Try.func71, Try.ntmps71
 go_wp2_with (first|((with_reducible refine gate_callee (f:=74) rfl ?_);refine goesL_ (some 4) rfl rfl Try.func74 (by kernel_rfl) rfl #[I L a0,I L 4] rfl Z15 ?_;(with_reducible refine (impl_put.calls k a0 4 t583 _ A2.out).mono ?_);rintro e w3 ⟨v584,rfl,ho0,hb⟩;refine ⟨_,rfl,?_⟩;have n_:=an_ (Kd.R_lower ho0 (below_size (pB_ HB.out)))<|D (below_step (pB_ HB.out) hb);clear HB;obtain ⟨HO585,HB⟩:=n_;(try clear hb);(try clear ho0)))
 go_ret
 exact ⟨_,er_,by (with_reducible repeat (first|apply Kd.R_alloc|apply Kd.R_drewN|apply Kd.R_drew));exact HO585.out,pB_ HB.out⟩

/-! ### slices_Grow_byte_byte: function 75 -/
def slices_Grow_byte_byte.f  (a1 : Int) : Option (List Int) := if a1 < 0 then (none) else (if (wrap64 (a1)) > 0 then (if 0 ≤ (wrap64 (a1)) then (if ([] : List Int).length + (wrap64 (a1) : Int).toNat < 140737488355328 then ((some (([] : List Int) ++ List.replicate (wrap64 (a1) : Int).toNat 0 : List Int)).bind fun y586 => (if 0 ≤ (y586.length : Int) then (some (y586.take (0 : Int).toNat)) else (none))) else (none)) else (none)) else (some ([] : List Int)))
set_option maxHeartbeats 8000000 in
set_option maxRecDepth 100000 in
theorem slices_Grow_byte_byte.calls  (a1 : Int) (r : List Int) (w : World) (h : slices_Grow_byte_byte.f a1 = some r) :
  Calls Try.prog 75 #[Y none 0 0, I L a1] w fun e w' => ∃ v0_ : Value, e = .returned (v0_) ∧ Kd.R (Kd.int .u8) 5 w' w.heap.size (fun _ => True) v0_ r ∧ Below w.heap.size w w' := by
 have HB := D (Below.refl w.heap.size w)
 have H:(if a1 < 0 then (none) else (if (wrap64 (a1)) > 0 then (if 0≤(wrap64 (a1)) then (if ([]:List Int).length + (wrap64 (a1):Int).toNat < 140737488355328 then ((some (([]:List Int) ++ List.replicate (wrap64 (a1):Int).toNat 0:List Int)).bind fun y586=>(if 0≤(y586.length:Int) then (some (y586.take (0:Int).toNat)) else (none))) else (none)) else (none)) else (some ([]:List Int))))=some r:=h
 clear h
 by_cases c3 : a1 < 0
 ·rw [if_pos c3] at H
  exact absurd H (by simp)
 ·rw [if_neg c3] at H
  have c3b0 : decide (a1 < 0) = false := decide_eq_false c3; clear c3
  by_cases c4 : (wrap64 (a1)) > 0
  ·rw [if_pos c4] at H
   have c4b0 : decide (0 < (wrap64 (a1))) = true := decide_eq_true c4; clear c4; obtain ⟨ji5, hji5⟩ : ∃ j_ : Int, (wrap64 (a1)) = j_ := ⟨_, rfl⟩
   replace H:(if 0≤(ji5) then (if ([]:List Int).length + (ji5:Int).toNat < 140737488355328 then ((some (([]:List Int) ++ List.replicate (ji5:Int).toNat 0:List Int)).bind fun y586=>(if 0≤(y586.length:Int) then (some (y586.take (0:Int).toNat)) else (none))) else (none)) else (none))=some r:=by first|(rw [hji5] at H;exact H)|(simp only [hji5] at H ⊢;exact H)
   (try rw [hji5] at c4b0); have hji5w : (IntKind.i64.wrap (a1)) = ji5 := (i64_w _).trans hji5
   by_cases c6 : 0 ≤ (ji5)
   ·rw [if_pos c6] at H
    have c6b0 := eq_true c6; have c6b1 : decide (0 ≤ (ji5)) = true := decide_eq_true c6; clear c6
    by_cases c7 : ([] : List Int).length + (ji5 : Int).toNat < 140737488355328
    ·rw [if_pos c7] at H
     have LMc7 := D c7; clear c7; obtain ⟨y586, hy586⟩ : ∃ y_ : List Int, y_ = (([] : List Int) ++ List.replicate (ji5 : Int).toNat 0) := ⟨_, rfl⟩
     replace H:(if 0≤(y586.length:Int) then (some (y586.take (0:Int).toNat)) else (none))=some r:=by first|(rw [hy586];with_reducible exact H)|(have H2_:=(Option.bind_some _ _).symm.trans H;rw [hy586];with_reducible exact H2_)|(have H2_:=(Option.bind_some _ _).symm.trans H;with_reducible exact H2_)|with_reducible exact H|(rw [hy586];exact H)|exact H
     have Ny586 := D hy586; clear hy586
     by_cases c8 : 0 ≤ (y586.length : Int)
     ·rw [if_pos c8] at H
      have c8b0 := eq_true c8; have c8b1 : decide (0 ≤ (y586.length : Int)) = true := decide_eq_true c8; clear c8; obtain ⟨y589, hy589⟩ : ∃ y_ : List Int, y_ = (y586.take (0 : Int).toNat) := ⟨_, rfl⟩
      replace H:(some y589)=some r:=by first|(rw [hy589];with_reducible exact H)|(have H2_:=(Option.bind_some _ _).symm.trans H;rw [hy589];with_reducible exact H2_)|(have H2_:=(Option.bind_some _ _).symm.trans H;with_reducible exact H2_)|with_reducible exact H|(rw [hy589];exact H)|exact H
      have Ny589 := D hy589; clear hy589; obtain rfl := Option.some.inj H; go_enter Try.func75, Try.ntmps75
      go_wp2_with (first|(at_builtin;refine Kd.R_append_zeros (Kd.int .u8) (w0:=w) w.heap.size rfl (.tmp 20) (.tmp 21) 22 3 5 (.int .u8 0) 1 rfl Try.underlying22 Try.underlying3 info5 rfl (by decide) (by omega) (Y none 0 0) ([]:List Int) 0 (ji5:Int) (fun _=>True) rfl rfl rfl ?aF ?aO (od_ Z21) ?aB ?aS ?aL ?_;(case aB=>exact (pB_ HB.out));(case aF=>exact (fun _ _=>trivial));(case aO=>exact ((Kd.R_nil _ _ _ _ (fun _=>True))));(case aS=>exact (below_size (pB_ HB.out)));(case aL=>have:=LMc7.out;omega);intro v587 w9 ho hb hg hat;rw [← Ny586.out] at ho;have n0_:=D (hb);have n1_:=D (ho);clear HB;have HB:=n0_;have HO588:=n1_;clear n0_ n1_;clear ho hb hg hat;obtain ⟨Ao10,co10,eo10⟩:=Kd.R_slice HO588.out;subst eo10;have q11:(0:Int)≤((y586.length:Int):Int):=od_ Z21;obtain ⟨i011,hi011,_,hsz11,_⟩:=info_parts info5;have hcut11:=cut_to (P:=Try.prog) 22 5 .i64 Try.underlying22 hi011 Ao10 y586.length co10 0 (by omega) q11 (Kd.R_reads' HO588.out).2.1;have hr11:=Kd.R_take (m:=(0:Int).toNat) HO588.out (by omega);have hy11:y589.length=(0:Int).toNat:=(by rw [Ny589.out,List.length_take];omega);rw [← Ny589.out] at hr11;rw [← hy11] at hr11 hcut11;clear hy11 hi011 hsz11 HO588;have HO591:=D hr11;clear hr11;replace q11:=eq_true q11))
      go_ret;exact ⟨_,by first|rfl|(simp [errW_none,errW_some] <;> rfl)|(simp only [← hji5];first|rfl|(simp [errW_none,errW_some] <;> rfl))|(simp [*,errW_none,errW_some] <;> rfl),by (with_reducible repeat (first|apply Kd.R_alloc|apply Kd.R_drewN|apply Kd.R_drew));exact HO591.out,pB_ HB.out⟩
     ·rw [if_neg c8] at H
      exact absurd H (by simp)
    ·rw [if_neg c7] at H
     exact absurd H (by simp)
   ·rw [if_neg c6] at H
    exact absurd H (by simp)
  ·rw [if_neg c4] at H
   have c4b0 : decide (0 < (wrap64 (a1))) = false := decide_eq_false c4; clear c4; obtain rfl := Option.some.inj H; go_enter Try.func75, Try.ntmps75
   go_wp2
   go_ret;exact ⟨_,er_,by first|exact Kd.R_nil _ _ _ _ _|exact Kd.N_nil _ _ _ _ _|exact Kd.V_nil _ _ _ _ _|exact Kd.Q_nil _ _ _ _ _|exact Kd.S_nil _ _ _ _ _,pB_ HB.out⟩

/-! ### slices_Concat_byte_byte: function 72 -/
mutual
def slices_Concat_byte_byte.l0 : Nat → List (List Int) → Int → List (List Int) → Int → Int → Option (List Int)
 | 0, _, _, _, _, _ => none
 | k + 1,x0,x3,x9,x10,x11=>if x11 < x10 then (if 0≤x11 then (if x11 < (x9.length:Int) then (if (wrap64 (x3 + ((rd_L7 x9 x11).length:Int))) < 0 then (none) else (slices_Concat_byte_byte.l0 k x0 (wrap64 (x3 + ((rd_L7 x9 x11).length:Int))) x9 x10 (wrap64 (x11 + 1)))) else (none)) else (none)) else ((slices_Grow_byte_byte.f x3).bind fun t593=>(slices_Concat_byte_byte.l1 k t593 x0 (x0.length:Int) 0))
def slices_Concat_byte_byte.l1 : Nat → List Int → List (List Int) → Int → Int → Option (List Int)
 | 0, _, _, _, _ => none
 | k + 1,x6,x25,x26,x27=>if x27 < x26 then (if 0≤x27 then (if x27 < (x25.length:Int) then (if x6.length + (rd_L7 x25 x27).length < 140737488355328 then (slices_Concat_byte_byte.l1 k (x6 ++ (rd_L7 x25 x27)) x25 x26 (wrap64 (x27 + 1))) else (none)) else (none)) else (none)) else (some x6)
end
def slices_Concat_byte_byte.f (k : Nat) (l0 : List (List Int)) : Option (List Int) := slices_Concat_byte_byte.l0 k l0 0 l0 (l0.length : Int) 0
set_option maxHeartbeats 8000000 in
set_option maxRecDepth 100000 in
theorem slices_Concat_byte_byte.calls (k : Nat) (A0 : Option Addr) (c0 : Nat) (l0 : List (List Int)) (r : List Int) (w : World) (hr0 : Kd.C (Kd.slice 5 (Kd.int .u8)) w A0 l0.length l0) (hc0 : l0.length ≤ c0) (h : slices_Concat_byte_byte.f k l0 = some r) :
  Calls Try.prog 72 #[Y A0 l0.length c0] w fun e w' => ∃ v0_ : Value, e = .returned (v0_) ∧ Kd.R (Kd.int .u8) 5 w' w.heap.size (fun _ => True) v0_ r ∧ Below w.heap.size w w' := by
 have HR0 := D hr0
 have HC0 := D hc0
 clear hr0 hc0
 have HB := D (Below.refl w.heap.size w)
 have H : (slices_Concat_byte_byte.l0 k l0 0 l0 (l0.length : Int) 0) = some r := h
 clear h
 have H' := D H
 clear H
 go_enter Try.func72, Try.ntmps72
 go_wp2
 go_loopg [3,11] k (fun kq v3 v11 w'=>∃ (x3_1:Int) (x11_1:Int),v3=I L x3_1∧v11=I L x11_1∧Aside0 (slices_Concat_byte_byte.l0 kq l0 x3_1 l0 (l0.length:Int) x11_1=some r)∧Aside0 (kq≤k)∧Aside0 (Below w.heap.size w w'))
 case atStart => exact ⟨(0), (0), Z22, Z22, H', ⟨Nat.le_refl _⟩, ⟨pB_ HB.out⟩⟩
 case round =>
  clear H'; obtain ⟨x3_1, x11_1, rfl, rfl, HA, HK1, HB⟩ := hrel
  cases gk with
  | zero => exact absurd HA.out (by simp [slices_Concat_byte_byte.l0])
  | succ k1 =>
   have H := HA.out; clear HA; simp only [slices_Concat_byte_byte.l0] at H
   by_cases c2 : x11_1 < (l0.length : Int)
   ·rw [if_pos c2] at H
    have c2b0 : decide (x11_1 < (l0.length : Int)) = true := decide_eq_true c2; clear c2
    by_cases c3 : 0 ≤ x11_1
    ·rw [if_pos c3] at H
     have c3b0 : decide (0 ≤ x11_1) = true := decide_eq_true c3; clear c3
     by_cases c4 : x11_1 < (l0.length : Int)
     ·rw [if_pos c4] at H
      have c4b0 : decide (x11_1 < (l0.length : Int)) = true := decide_eq_true c4; clear c4
      by_cases c5 : (wrap64 (x3_1 + ((rd_L7 l0 x11_1).length : Int))) < 0
      ·rw [if_pos c5] at H
       exact absurd H (by simp)
      ·rw [if_neg c5] at H
       have c5b0:decide ((wrap64 (x3_1 + ((rd_L7 l0 x11_1).length:Int))) < 0)=false:=decide_eq_false c5;clear c5;have H':=D H;clear H;have p592:0≤(x11_1:Int):=od_ Z21;have q592:x11_1 < (l0.length:Int):=od_ Z21;obtain ⟨ad592,A592_0,c592_0,e592,hx592_0,hl592_0,hi592_0⟩:=at_L7 HR0.out x11_1 p592 q592;cases e592;replace hx592_0:=rc_ HB.out hx592_0;have HR592_0:=D hi592_0;have HC592_0:=D hl592_0;clear hi592_0 hl592_0;replace p592:=eq_true p592;replace q592:=eq_true q592
       go_wp2
       go_roundg k1
       case measure => have := HK1.out; omega
       case rel => exact ⟨(wrap64 (x3_1 + ((rd_L7 l0 x11_1).length : Int))), (wrap64 (x11_1 + 1)), Z22, Z22, H', ⟨by have := HK1.out; omega⟩, ⟨pB_ HB.out⟩⟩
     ·rw [if_neg c4] at H
      exact absurd H (by simp)
    ·rw [if_neg c3] at H
     exact absurd H (by simp)
   ·rw [if_neg c2] at H
    have c2b0:decide (x11_1 < (l0.length:Int))=false:=decide_eq_false c2;clear c2;obtain ⟨t593,A60,H⟩:=bs_.mp H;(try dsimp only at H);have A6:=D A60;clear A60;have H':=D H;clear H
    go_wp2_with (first|((with_reducible refine gate_callee (f:=75) rfl ?_);refine goesL_ (some 24) rfl rfl Try.func75 (by kernel_rfl) rfl #[Y none 0 0,I L x3_1] rfl Z15 ?_;(with_reducible refine (slices_Grow_byte_byte.calls  x3_1 t593 _ A6.out).mono ?_);rintro e w7 ⟨v594,rfl,ho0,hb⟩;refine ⟨_,rfl,?_⟩;have n_:=an_ (Kd.R_lower ho0 (below_size (pB_ HB.out)))<|D (below_step (pB_ HB.out) hb);clear HB;obtain ⟨HO595,HB⟩:=n_;(try clear hb);(try clear ho0)))
    go_loopg [6,27] k1 (fun kq v6 v27 w'=>∃ (x6_2:List Int) (x27_2:Int),v27=I L x27_2∧Aside0 (slices_Concat_byte_byte.l1 kq x6_2 l0 (l0.length:Int) x27_2=some r)∧Aside0 (kq≤k1)∧Aside0 (Kd.R (Kd.int .u8) 5 w' w.heap.size (fun _=>True) v6 x6_2)∧Aside0 (Below w.heap.size w w'))
    case atStart => exact ⟨(t593), (0), Z22, H', ⟨Nat.le_refl _⟩, ⟨pR_ HO595.out⟩, ⟨pB_ HB.out⟩⟩
    case round =>
     clear H'
     (try clear c2);(try clear c2b0);(try clear p2);(try clear c3);(try clear c3b0);(try clear c4);(try clear c4b0);(try clear c5);(try clear c5b0);(try clear p5);(try clear q5);(try clear hx5);(try clear p6);(try clear c7);(try clear hx592_0);(try clear p592);(try clear q592)
     obtain ⟨x6_2, x27_2, rfl, HA, HK2, HO_6, HB⟩ := hrel
     cases gk with
     | zero => exact absurd HA.out (by simp [slices_Concat_byte_byte.l1])
     | succ k2 =>
      have H := HA.out; clear HA; simp only [slices_Concat_byte_byte.l1] at H
      by_cases c8 : x27_2 < (l0.length : Int)
      ·rw [if_pos c8] at H
       have c8b0 : decide (x27_2 < (l0.length : Int)) = true := decide_eq_true c8; clear c8
       by_cases c9 : 0 ≤ x27_2
       ·rw [if_pos c9] at H
        have c9b0 : decide (0 ≤ x27_2) = true := decide_eq_true c9; clear c9
        by_cases c10 : x27_2 < (l0.length : Int)
        ·rw [if_pos c10] at H
         have c10b0 : decide (x27_2 < (l0.length : Int)) = true := decide_eq_true c10; clear c10
         by_cases c11 : x6_2.length + (rd_L7 l0 x27_2).length < 140737488355328
         ·rw [if_pos c11] at H
          have LMc11 := D c11; clear c11; obtain ⟨y597, hy597⟩ : ∃ y_ : List Int, y_ = (x6_2 ++ (rd_L7 l0 x27_2)) := ⟨_, rfl⟩
          replace H:(slices_Concat_byte_byte.l1 k2 y597 l0 (l0.length:Int) (wrap64 (x27_2 + 1)))=some r:=by first|(rw [hy597];with_reducible exact H)|(have H2_:=(Option.bind_some _ _).symm.trans H;rw [hy597];with_reducible exact H2_)|(have H2_:=(Option.bind_some _ _).symm.trans H;with_reducible exact H2_)|with_reducible exact H|(rw [hy597];exact H)|exact H
          have Ny597:=D hy597;clear hy597;have H':=D H;clear H;have p596:0≤(x27_2:Int):=od_ Z21;have q596:x27_2 < (l0.length:Int):=od_ Z21;obtain ⟨ad596,A596_0,c596_0,e596,hx596_0,hl596_0,hi596_0⟩:=at_L7 HR0.out x27_2 p596 q596;cases e596;replace hx596_0:=rc_ HB.out hx596_0;have HR596_0:=D hi596_0;have HC596_0:=D hl596_0;clear hi596_0 hl596_0;replace p596:=eq_true p596;replace q596:=eq_true q596
          go_wp2_with (first|((with_reducible refine gate_builtin (b:=.append) (xs:=#[.tmp 31,.tmp 32]) rfl ?_);at_builtin;refine Kd.R_append_rows (Kd.int .u8) (w0:=w) w.heap.size rfl (.tmp 31) (.tmp 32) 22 5 (.int .u8 0) 1 rfl Try.underlying22 info5 rfl (by decide) (by omega) u6 x6_2 (rd_L7 l0 x27_2) _ _ _ (fun _=>True) (fun _=>False) rfl rfl ?aO ?aR (fun _ _ h=>h) (fun _ h=>h.elim) ?aF ?aB ?aS ?aL ?_;(case aR=>exact pC_ (Kd.C_below HR596_0.out HB.out));(case aB=>exact (pB_ HB.out));(case aF=>exact (fun _ _=>trivial));(case aO=>exact (pR_ HO_6.out));(case aS=>exact (below_size (pB_ HB.out)));(case aL=>have:=LMc11.out;omega);intro v598 w12 ho hb hg hat;rw [← Ny597.out] at ho;have n_:=an_ (hb)<|D (ho);clear HB HO_6;obtain ⟨HB,HO599⟩:=n_;clear ho hb hg hat))
          go_roundg k2
          case measure => have := HK1.out; have := HK2.out; omega
          case rel => exact ⟨(y597), (wrap64 (x27_2 + 1)), Z22, H', ⟨by have := HK1.out; have := HK2.out; omega⟩, ⟨pR_ HO599.out⟩, ⟨pB_ HB.out⟩⟩
         ·rw [if_neg c11] at H
          exact absurd H (by simp)
        ·rw [if_neg c10] at H
         exact absurd H (by simp)
       ·rw [if_neg c9] at H
        exact absurd H (by simp)
      ·rw [if_neg c8] at H
       have c8b0 : decide (x27_2 < (l0.length : Int)) = false := decide_eq_false c8; clear c8; obtain rfl := Option.some.inj H
       go_wp2
       go_ret;exact ⟨_,er_,by (with_reducible repeat (first|apply Kd.R_alloc|apply Kd.R_drewN|apply Kd.R_drew));exact HO_6.out,pB_ HB.out⟩

/-! ### impl_AddrBytes: function 67 -/
def impl_AddrBytes.f (k : Nat) (a0_0 a0_1 a0_2 a0_3 a0_4 : Int) : Option (List Int) := (impl_AddrOk.f a0_0 a0_1 a0_2 a0_3 a0_4).bind fun t601 => (if t601 = true then (if a0_0 = 4 then ((impl_Put32.f k a0_4).bind fun t602 => (some t602)) else ((impl_Put32.f k a0_1).bind fun t605 => ((impl_Put32.f k a0_2).bind fun t608 => ((impl_Put32.f k a0_3).bind fun t611 => ((impl_Put32.f k a0_4).bind fun t614 => ((slices_Concat_byte_byte.f k (([t605, t608, t611, t614] : List (List Int)))).bind fun t620 => (some t620))))))) else (some ([] : List Int)))
def impl_AddrBytes.T5 : Bool × List (List Nat × List Nat) := (true, [([], []), ([0], [0]), ([1], [1]), ([], []), ([3], [3]), ([4, 2], [4]), ([], []), ([6], [6]), ([7, 5], [7]), ([], []), ([9], [9]), ([10, 8], [10]), ([2, 5, 8, 11], [2, 5, 8, 11]), ([12, 11], [12]), ([13, 13, 0, 1, 2, 3, 4, 5, 6, 7, 8, 9, 10, 11, 12, 13], [13])])
def impl_AddrBytes.B5 : List Nat := [0, 1, 3, 0, 8, 31, 0, 64, 255, 0, 512, 2047, 4095, 8191, 16383]
theorem impl_AddrBytes.tab5 : rtab .any (opsOf Try.f67 5) = impl_AddrBytes.T5 := by kernel_rfl
theorem impl_AddrBytes.bits5 : waitsOk impl_AddrBytes.T5.2 impl_AddrBytes.B5 = true := by kernel_rfl
set_option maxHeartbeats 8000000 in
set_option maxRecDepth 100000 in
theorem impl_AddrBytes.calls (k : Nat) (a0_0 a0_1 a0_2 a0_3 a0_4 : Int) (r : List Int) (w : World) (h : impl_AddrBytes.f k a0_0 a0_1 a0_2 a0_3 a0_4 = some r) :
  Calls Try.prog 67 #[.agg #[I L a0_0,I L a0_1,I L a0_2,I L a0_3,I L a0_4]] w fun e w'=>∃ v0_:Value,e=.returned (v0_)∧Kd.R (Kd.int .u8) 5 w' w.heap.size (fun _=>True) v0_ r∧Below w.heap.size w w':=by
 have hu32 := Try.underlying32
 have HB := D (Below.refl w.heap.size w)
 have H:((impl_AddrOk.f a0_0 a0_1 a0_2 a0_3 a0_4).bind fun t601=>(if t601=true then (if a0_0=4 then ((impl_Put32.f k a0_4).bind fun t602=>(some t602)) else ((impl_Put32.f k a0_1).bind fun t605=>((impl_Put32.f k a0_2).bind fun t608=>((impl_Put32.f k a0_3).bind fun t611=>((impl_Put32.f k a0_4).bind fun t614=>((slices_Concat_byte_byte.f k (([t605,t608,t611,t614]:List (List Int)))).bind fun t620=>(some t620))))))) else (some ([]:List Int))))=some r:=h
 clear h
 obtain ⟨t601, A20, H⟩ := bs_.mp H
 (try dsimp only at H)
 have A2 := D A20
 clear A20
 have HU3 := D H
 clear H
 go_enter Try.func67, Try.ntmps67
 go_upto_if 3 with (first|((with_reducible refine gate_dst (N:=1) rfl ?_);refine bx_ (N:=1) (cs:=#[I L a0_0,I L a0_1,I L a0_2,I L a0_3,I L a0_4]) (t:=32) ?_;intro gb600 hg w4 hbox hb;have n_:=an_ (below_step (pB_ HB.out) hb)<|an_ (hbox)<|an_ (bg_ hg (pB_ HB.out):w.heap.size≤gb600)<|D (bg_ hg (pB_ HB.out):w.heap.size≤gb600);clear HB;obtain ⟨HB,BK600,GW600,GE600⟩:=n_;clear hb hbox hg;have hcz5_0:=cells5 BK600.out)|((with_reducible refine gate_callee (f:=60) rfl ?_);refine goesL_ (some 5) rfl rfl Try.func60 (by kernel_rfl) rfl #[.agg #[I L a0_0,I L a0_1,I L a0_2,I L a0_3,I L a0_4]] rfl Z15 ?_;(with_reducible refine (impl_AddrOk.calls a0_0 a0_1 a0_2 a0_3 a0_4 t601 _ A2.out).mono ?_);rintro e w6 ⟨rfl,hb⟩;refine ⟨_,rfl,?_⟩;have n_:=an_ (blk_below (pk_ BK600.out) hb)<|D (below_step (pB_ HB.out) hb);clear BK600 HB;obtain ⟨BK600,HB⟩:=n_;(try clear hb)))
 have H := HU3.out
 clear HU3
 by_cases c7 : t601 = true
 ·subst c7
  rw [if_pos rfl] at H
  by_cases c8 : a0_0 = 4
  ·rw [if_pos c8] at H
   have c8b0:(a0_0 == 4)=true:=beq_iff_eq.mpr c8;have c8b1:(a0_0 != 4)=false:=bne_eq_false_iff_eq.mpr c8;clear c8;refine rw_ c8b0 ?_;obtain ⟨t602,A90,H⟩:=bs_.mp H;(try dsimp only at H);have A9:=D A90;clear A90;obtain rfl:=Option.some.inj H;have hcz10_0:=cells5 BK600.out
   go_wp2_with (first|((with_reducible refine gate_callee (f:=71) rfl ?_);refine goesL_ (some 13) rfl rfl Try.func71 (by kernel_rfl) rfl #[I L a0_4] rfl Z15 ?_;(with_reducible refine (impl_Put32.calls k a0_4 t602 _ A9.out).mono ?_);rintro e w11 ⟨v603,rfl,ho0,hb⟩;refine ⟨_,rfl,?_⟩;have n_:=an_ (Kd.R_lower ho0 (below_size (pB_ HB.out)))<|an_ (blk_below (pk_ BK600.out) hb)<|D (below_step (pB_ HB.out) hb);clear BK600 HB;obtain ⟨HO604,BK600,HB⟩:=n_;(try clear hb);(try clear ho0)))
   go_ret;exact ⟨_,er_,by (with_reducible repeat (first|apply Kd.R_alloc|apply Kd.R_drewN|apply Kd.R_drew));exact HO604.out,pB_ HB.out⟩
  ·rw [if_neg c8] at H
   have c8b0:(a0_0 == 4)=false:=beq_eq_false_iff_ne.mpr c8;have c8b1:(a0_0 != 4)=true:=bne_iff_ne.mpr c8;refine rw_ c8b0 ?_;obtain ⟨t605,A120,H⟩:=bs_.mp H;(try dsimp only at H);have A12:=D A120;clear A120;obtain ⟨t608,A130,H⟩:=bs_.mp H;(try dsimp only at H);have A13:=D A130;clear A130;obtain ⟨t611,A140,H⟩:=bs_.mp H;(try dsimp only at H);have A14:=D A140;clear A140;obtain ⟨t614,A150,H⟩:=bs_.mp H;(try dsimp only at H);have A15:=D A150;clear A150;obtain ⟨y617,hy617⟩:∃ y_:List (List Int),y_=(([t605,t608,t611,t614]:List (List Int))):=⟨_,rfl⟩
   replace H:((slices_Concat_byte_byte.f k y617).bind fun t620=>(some t620))=some r:=by first|(rw [hy617];with_reducible exact H)|(have H2_:=(Option.bind_some _ _).symm.trans H;rw [hy617];with_reducible exact H2_)|(have H2_:=(Option.bind_some _ _).symm.trans H;with_reducible exact H2_)|with_reducible exact H|(rw [hy617];exact H)|exact H
   have Ny617:=D hy617;clear hy617;obtain ⟨t620,A160,H⟩:=bs_.mp H;(try dsimp only at H);have A16:=D A160;clear A160;obtain rfl:=Option.some.inj H;have hcz17_0:=cells5 BK600.out
   try go_wp2
   have n_ := an_ (blk_drew BK600.out) <| D (below_drew1 HB.out)
   clear BK600 HB;obtain ⟨BK600,HB⟩:=n_;refine start_ (n:=15) (S:=fun w'=>w'.cell? ⟨gb600,0,none⟩=some (I L a0_0)∧w'.cell? ⟨gb600,1,none⟩=some (I L a0_1)∧w'.cell? ⟨gb600,2,none⟩=some (I L a0_2)∧w'.cell? ⟨gb600,3,none⟩=some (I L a0_3)∧w'.cell? ⟨gb600,4,none⟩=some (I L a0_4)) (ds:=[]) (bz 15 0) (by kernel_rfl) rfl (by kernel_rfl) (be5_ BK600.out) (fun hHeld=>?_);refine with_tabW impl_AddrBytes.tab5 impl_AddrBytes.bits5 (fun HT_ HW_=>?_);generalize w6.drew=w18 at BK600 HB hHeld ⊢;refine pb_ 0 ?_;refine pb_ 3 ?_;refine pb_ 6 ?_;refine pb_ 9 ?_;refine tb_ 1 rfl rfl hHeld Z19 ?_;refine tb_ 4 rfl rfl hHeld Z19 ?_;refine tb_ 7 rfl rfl hHeld Z19 ?_;refine tb_ 10 rfl rfl hHeld Z19 ?_;refine oa_ 2 16 15 1759 HT_ (fun K hK=>?_);refine goes_ Try.func71 (by kernel_rfl) rfl #[I L a0_1] (by rfl) rfl rfl Z15 ?_;with_reducible refine (impl_Put32.calls k a0_1 t605 _ A12.out).mono ?_
   rintro e w19 ⟨v606, rfl, ho0, hb⟩; refine ⟨_, rfl, ?_⟩
   have n_ := an_ (Kd.R_lower ho0 (below_size (pB_ HB.out))) <| an_ (blk_below (pk_ BK600.out) hb) <| D (below_step (pB_ HB.out) hb)
   clear BK600 HB;obtain ⟨HO607,BK600,HB⟩:=n_;refine hK.out _ _ (be5_ BK600.out) (fun hHeld=>?_);clear hK K;refine nx_ (N:=some 16) ?_;refine oa_ 5 19 15 1791 HT_ (fun K hK=>?_);refine goes_ Try.func71 (by kernel_rfl) rfl #[I L a0_2] (by rfl) rfl rfl Z15 ?_;with_reducible refine (impl_Put32.calls k a0_2 t608 _ A13.out).mono ?_
   rintro e w20 ⟨v609, rfl, ho0, hb⟩; refine ⟨_, rfl, ?_⟩
   have n_:=an_ (Kd.R_elder' (pR_ HO607.out) (Kd.R_base ho0) hb)<|an_ (Kd.R_lower (nw_ ho0 (pR_ HO607.out)) (below_size (pB_ HB.out)))<|an_ (blk_below (pk_ BK600.out) hb)<|D (below_step (pB_ HB.out) hb)
   clear HO607 BK600 HB;obtain ⟨HO607,HO610,BK600,HB⟩:=n_;refine hK.out _ _ (be5_ BK600.out) (fun hHeld=>?_);clear hK K;refine nx_ (N:=some 19) ?_;refine oa_ 8 22 15 2047 HT_ (fun K hK=>?_);refine goes_ Try.func71 (by kernel_rfl) rfl #[I L a0_3] (by rfl) rfl rfl Z15 ?_;with_reducible refine (impl_Put32.calls k a0_3 t611 _ A14.out).mono ?_
   rintro e w21 ⟨v612, rfl, ho0, hb⟩; refine ⟨_, rfl, ?_⟩
   have n_:=an_ (Kd.R_elder' (pR_ HO607.out) (Kd.R_base ho0) hb)<|an_ (Kd.R_elder' (pR_ HO610.out) (Kd.R_base ho0) hb)<|an_ (Kd.R_lower (nw_ (nw_ ho0 (pR_ HO607.out)) (pR_ HO610.out)) (below_size (pB_ HB.out)))<|an_ (blk_below (pk_ BK600.out) hb)<|D (below_step (pB_ HB.out) hb)
   clear HO607 HO610 BK600 HB;obtain ⟨HO607,HO610,HO613,BK600,HB⟩:=n_;refine hK.out _ _ (be5_ BK600.out) (fun hHeld=>?_);clear hK K;refine nx_ (N:=some 22) ?_;refine oa_ 11 25 15 4095 HT_ (fun K hK=>?_);refine goes_ Try.func71 (by kernel_rfl) rfl #[I L a0_4] (by rfl) rfl rfl Z15 ?_;with_reducible refine (impl_Put32.calls k a0_4 t614 _ A15.out).mono ?_
   rintro e w22 ⟨v615, rfl, ho0, hb⟩; refine ⟨_, rfl, ?_⟩
   have n_:=an_ (Kd.R_elder' (pR_ HO607.out) (Kd.R_base ho0) hb)<|an_ (Kd.R_elder' (pR_ HO610.out) (Kd.R_base ho0) hb)<|an_ (Kd.R_elder' (pR_ HO613.out) (Kd.R_base ho0) hb)<|an_ (Kd.R_lower (nw_ (nw_ (nw_ ho0 (pR_ HO607.out)) (pR_ HO610.out)) (pR_ HO613.out)) (below_size (pB_ HB.out)))<|an_ (blk_below (pk_ BK600.out) hb)<|D (below_step (pB_ HB.out) hb)
   clear HO607 HO610 HO613 BK600 HB;obtain ⟨HO607,HO610,HO613,HO616,BK600,HB⟩:=n_;obtain ⟨Ao23,co23,eo23⟩:=Kd.R_slice HO607.out;(first|subst eo23|obtain ⟨rfl,rfl⟩:=sl_inj eo23);obtain ⟨Ao24,co24,eo24⟩:=Kd.R_slice HO610.out;(first|subst eo24|obtain ⟨rfl,rfl⟩:=sl_inj eo24);obtain ⟨Ao25,co25,eo25⟩:=Kd.R_slice HO613.out;(first|subst eo25|obtain ⟨rfl,rfl⟩:=sl_inj eo25);obtain ⟨Ao26,co26,eo26⟩:=Kd.R_slice HO616.out;(first|subst eo26|obtain ⟨rfl,rfl⟩:=sl_inj eo26);refine hK.out _ _ (be5_ BK600.out) (fun hHeld=>?_);clear hK K;refine nx_ (N:=some 25) ?_;refine oa_ 12 26 15 8191 HT_ (fun K hK=>?_);refine Kd.N_lit_step (Kd.slice 5 (Kd.int .u8)) _ 22 ?hg (N':=26) ?hd (xs:=([t605,t608,t611,t614]:List (List Int))) (inner:=[Y Ao23 t605.length co23,Y Ao24 t608.length co24,Y Ao25 t611.length co25,Y Ao26 t614.length co26]) (ok:=(fun k_=>k_≠gb600)) (okp:=(fun k_=>k_≠gb600)) ?hr ?hp (fun _ hk=>hk) ((show ∀ k_,w22.heap.size≤k_ → (fun k_=>k_≠gb600) k_ from fun k_ hk=>Kd.freshB (pk_ BK600.out) k_ hk) _ (Nat.le_refl _)) (Below.refl _ _) (Nat.le_refl _) (by simp) ?_;(case hd=>rfl);(case hg=>rfl);(case hr=>first|(go_simp;done)|(go_simp;rfl));(case hp=>exact (Reps.one (show Kd.FK (Kd.slice 5 (Kd.int .u8)) _ _ t605 [Y Ao23 t605.length co23] from (Kd.FK_slice_mk (Kd.R_reads' (Kd.R_mono (ok':=(fun k_=>k_≠gb600)) (Kd.R_types (HO607.out) BK600.out (by decide)) (fun k_ hk=>hk.2))).2.1 (by (with_reducible repeat (first|apply Kd.F_alloc|apply Kd.F_drewN|apply Kd.F_drew));exact Kd.R_F (Kd.R_mono (ok':=(fun k_=>k_≠gb600)) (Kd.R_types (HO607.out) BK600.out (by decide)) (fun k_ hk=>hk.2))))) (Reps.one (show Kd.FK (Kd.slice 5 (Kd.int .u8)) _ _ t608 [Y Ao24 t608.length co24] from (Kd.FK_slice_mk (Kd.R_reads' (Kd.R_mono (ok':=(fun k_=>k_≠gb600)) (Kd.R_types (HO610.out) BK600.out (by decide)) (fun k_ hk=>hk.2))).2.1 (by (with_reducible repeat (first|apply Kd.F_alloc|apply Kd.F_drewN|apply Kd.F_drew));exact Kd.R_F (Kd.R_mono (ok':=(fun k_=>k_≠gb600)) (Kd.R_types (HO610.out) BK600.out (by decide)) (fun k_ hk=>hk.2))))) (Reps.one (show Kd.FK (Kd.slice 5 (Kd.int .u8)) _ _ t611 [Y Ao25 t611.length co25] from (Kd.FK_slice_mk (Kd.R_reads' (Kd.R_mono (ok':=(fun k_=>k_≠gb600)) (Kd.R_types (HO613.out) BK600.out (by decide)) (fun k_ hk=>hk.2))).2.1 (by (with_reducible repeat (first|apply Kd.F_alloc|apply Kd.F_drewN|apply Kd.F_drew));exact Kd.R_F (Kd.R_mono (ok':=(fun k_=>k_≠gb600)) (Kd.R_types (HO613.out) BK600.out (by decide)) (fun k_ hk=>hk.2))))) (Reps.one (show Kd.FK (Kd.slice 5 (Kd.int .u8)) _ _ t614 [Y Ao26 t614.length co26] from (Kd.FK_slice_mk (Kd.R_reads' (Kd.R_mono (ok':=(fun k_=>k_≠gb600)) (Kd.R_types (HO616.out) BK600.out (by decide)) (fun k_ hk=>hk.2))).2.1 (by (with_reducible repeat (first|apply Kd.F_alloc|apply Kd.F_drewN|apply Kd.F_drew));exact Kd.R_F (Kd.R_mono (ok':=(fun k_=>k_≠gb600)) (Kd.R_types (HO616.out) BK600.out (by decide)) (fun k_ hk=>hk.2))))) (Reps.none _ _))))));intro v618 w27 ho28 hb hg_ hnew_;clear hg_ hnew_;(first|rw [← Ny617.out] at ho28|(simp only [Int.reduceToNat] at ho28;rw [← Ny617.out] at ho28))
   have n_ := an_ (Kd.N_lower ho28 (below_size (pB_ HB.out))) <| an_ (blk_below (pk_ BK600.out) hb) <| D (below_step (pB_ HB.out) hb)
   clear BK600 HB HO607 HO610 HO613 HO616;obtain ⟨HO619,BK600,HB⟩:=n_;clear hb ho28;obtain ⟨Ao29,co29,eo29⟩:=Kd.N_slice HO619.out;(first|subst eo29|obtain ⟨rfl,rfl⟩:=sl_inj eo29);refine hK.out _ _ (be5_ BK600.out) (fun hHeld=>?_);clear hK K;refine nx_ (N:=some 26) ?_;refine oa_ 13 27 15 16383 HT_ (fun K hK=>?_);refine goes_ Try.func72 (by kernel_rfl) rfl #[Y Ao29 y617.length co29] (by rfl) rfl rfl Z15 ?_;with_reducible refine (slices_Concat_byte_byte.calls k _ _ y617 t620 _ ?side1 ?side2 A16.out).mono ?_
   (case side1 => exact pC_ ((Kd.N_reads' HO619.out).2.2)); (case side2 => exact (Kd.N_reads' HO619.out).2.1); rintro e w30 ⟨v621, rfl, ho0, hb⟩; refine ⟨_, rfl, ?_⟩
   have n_ := an_ (Kd.N_elder' (pN_ HO619.out) (Kd.R_base ho0) hb) <| an_ (Kd.R_lower ho0 (below_size (pB_ HB.out))) <| an_ (blk_below (pk_ BK600.out) hb) <| D (below_step (pB_ HB.out) hb)
   clear HO619 BK600 HB;obtain ⟨HO619,HO622,BK600,HB⟩:=n_;refine hK.out _ _ (be5_ BK600.out) (fun hHeld=>?_);clear hK K;refine nx_ (N:=some 27) ?_;refine pb_ 14 ?_;refine done_ (done_of HT_.out (by kernel_rfl)) ?_
   try go_wp2
   go_ret;exact ⟨_,er_,by (with_reducible repeat (first|apply Kd.R_alloc|apply Kd.R_drewN|apply Kd.R_drew));exact HO622.out,pB_ HB.out⟩
 ·replace c7 := Bool.eq_false_iff.mpr c7
  subst c7; rw [if_neg (show ¬ (false = true) by decide)] at H; obtain rfl := Option.some.inj H
  go_wp2
  go_ret;exact ⟨_,er_,by first|exact Kd.R_nil _ _ _ _ _|exact Kd.N_nil _ _ _ _ _|exact Kd.V_nil _ _ _ _ _|exact Kd.Q_nil _ _ _ _ _|exact Kd.S_nil _ _ _ _ _,pB_ HB.out⟩

/-! ### impl_beOf: function 73 -/
def impl_beOf.l0 : Nat → Int → List Int → Int → Int → Option (Int)
 | 0, _, _, _, _ => none
 | k + 1,x3,x6,x7,x8=>if x8 < x7 then (if 0≤x8 then (if x8 < (x6.length:Int) then (impl_beOf.l0 k (Go.bits .or .i64 (wrap64 (x3 * 256)) (wrap64 (rd x6 x8))) x6 x7 (wrap64 (x8 + 1))) else (none)) else (none)) else (some x3)
def impl_beOf.f (k : Nat) (l0 : List Int) : Option (Int) := impl_beOf.l0 k 0 l0 (l0.length : Int) 0
set_option maxHeartbeats 8000000 in
set_option maxRecDepth 100000 in
theorem impl_beOf.calls (k : Nat) (A0 : Option Addr) (c0 : Nat) (l0 : List Int) (r : Int) (w : World) (hr0 : Kd.C (Kd.int .u8) w A0 l0.length l0) (hc0 : l0.length ≤ c0) (h : impl_beOf.f k l0 = some r) :
  Calls Try.prog 73 #[Y A0 l0.length c0] w fun e w' => e = .returned (I L r) ∧ Drawn0 w w' := by
 have HR0 := D hr0
 have HC0 := D hc0
 clear hr0 hc0
 have H : (impl_beOf.l0 k 0 l0 (l0.length : Int) 0) = some r := h
 clear h
 have H' := D H
 clear H
 go_enter Try.func73, Try.ntmps73
 go_wp2
 go_loopg [3,8] k (fun kq v3 v8 w'=>∃ (x3_1:Int) (x8_1:Int),v3=I L x3_1∧v8=I L x8_1∧Aside0 (impl_beOf.l0 kq x3_1 l0 (l0.length:Int) x8_1=some r)∧Aside0 (kq≤k)∧Drawn0 w w')
 case atStart => exact ⟨(0), (0), Z22, Z22, H', ⟨Nat.le_refl _⟩, by repeat (first | exact Drawn0.refl _ | apply Drawn0.step)⟩
 case round =>
  clear H'; obtain ⟨x3_1, x8_1, rfl, rfl, HA, HK1, ⟨m1, rfl⟩⟩ := hrel
  cases gk with
  | zero => exact absurd HA.out (by simp [impl_beOf.l0])
  | succ k1 =>
   have H := HA.out; clear HA; simp only [impl_beOf.l0] at H
   by_cases c2 : x8_1 < (l0.length : Int)
   ·rw [if_pos c2] at H
    have c2b0 : decide (x8_1 < (l0.length : Int)) = true := decide_eq_true c2; clear c2
    by_cases c3 : 0 ≤ x8_1
    ·rw [if_pos c3] at H
     have c3b0 : decide (0 ≤ x8_1) = true := decide_eq_true c3; clear c3
     by_cases c4 : x8_1 < (l0.length : Int)
     ·rw [if_pos c4] at H
      have c4b0:decide (x8_1 < (l0.length:Int))=true:=decide_eq_true c4;clear c4;have H':=D H;clear H;have p623:0≤(x8_1:Int):=od_ Z21;have q623:x8_1 < (l0.length:Int):=od_ Z21;obtain ⟨ad623,e623,hx623_0⟩:=Kd.at_int HR0.out x8_1 p623 q623;cases e623;replace p623:=eq_true p623;replace q623:=eq_true q623
      go_wp2
      go_roundg k1
      case measure => have := HK1.out; omega
      case rel=>exact ⟨(Go.bits .or .i64 (wrap64 (x3_1 * 256)) (wrap64 (rd l0 x8_1))),(wrap64 (x8_1 + 1)),Z22,Z22,H',⟨by have:=HK1.out;omega⟩,by repeat (first|exact Drawn0.refl _|apply Drawn0.step)⟩
     ·rw [if_neg c4] at H
      exact absurd H (by simp)
    ·rw [if_neg c3] at H
     exact absurd H (by simp)
   ·rw [if_neg c2] at H
    have c2b0 : decide (x8_1 < (l0.length : Int)) = false := decide_eq_false c2; clear c2; obtain rfl := Option.some.inj H
    go_wp2
    go_ret; exact ⟨by first | rfl | (simp; done) | (simp [*]; done), by repeat (first | exact Drawn0.refl _ | apply Drawn0.step)⟩

/-! ### impl_AddrOf: function 68 -/
def impl_AddrOf.f (k : Nat) (l0 : List Int) : Option (Int × Int × Int × Int × Int × Bool) := if (l0.length : Int) = 4 then ((impl_beOf.f k l0).bind fun t625 => (some (4, 0, 0, 0, t625, true))) else (if (l0.length : Int) = 16 then (if 4 ≤ (l0.length : Int) then ((impl_beOf.f k (l0.take 4)).bind fun t627 => (if 4 ≤ 8 then (if 8 ≤ (l0.length : Int) then ((impl_beOf.f k ((l0.take 8).drop 4)).bind fun t629 => (if 8 ≤ 12 then (if 12 ≤ (l0.length : Int) then ((impl_beOf.f k ((l0.take 12).drop 8)).bind fun t631 => ((impl_beOf.f k (l0.drop 12)).bind fun t633 => (some (6, t627, t629, t631, t633, true)))) else (none)) else (none))) else (none)) else (none))) else (none)) else (some (0, 0, 0, 0, 0, false)))
def impl_AddrOf.T5 : Bool × List (List Nat × List Nat) := (true, [([], []), ([0], [0]), ([1], [1]), ([], []), ([3], [3]), ([4, 2], [4]), ([], []), ([6], [6]), ([7, 5], [7]), ([], []), ([9], [9]), ([10, 8], [10]), ([2, 5, 8, 11], [2, 5, 8, 11]), ([12, 11, 0, 1, 2, 3, 4, 5, 6, 7, 8, 9, 10, 11, 12], [12]), ([13, 0, 1, 2, 3, 4, 5, 6, 7, 8, 9, 10, 11, 12, 13], [])])
def impl_AddrOf.B5 : List Nat := [0, 1, 3, 0, 8, 31, 0, 64, 255, 0, 512, 2047, 4095, 8191, 16383]
theorem impl_AddrOf.tab5 : rtab .any (opsOf Try.f68 5) = impl_AddrOf.T5 := by kernel_rfl
theorem impl_AddrOf.bits5 : waitsOk impl_AddrOf.T5.2 impl_AddrOf.B5 = true := by kernel_rfl
set_option maxHeartbeats 8000000 in
set_option maxRecDepth 100000 in
theorem impl_AddrOf.calls (k : Nat) (A0 : Option Addr) (c0 : Nat) (l0 : List Int) (r1 r2 r3 r4 r5 : Int) (r6 : Bool) (w : World) (hr0 : Kd.C (Kd.int .u8) w A0 l0.length l0) (hc0 : l0.length ≤ c0) (h : impl_AddrOf.f k l0 = some (r1, r2, r3, r4, r5, r6)) :
  Calls Try.prog 68 #[Y A0 l0.length c0] w fun e w'=>e=.returned (.tuple #[.agg #[I L r1,I L r2,I L r3,I L r4,I L r5],.bool r6])∧Below w.heap.size w w':=by
 have hu32 := Try.underlying32
 have HR0 := D hr0
 have HC0 := D hc0
 clear hr0 hc0
 have HB := D (Below.refl w.heap.size w)
 have H:(if (l0.length:Int)=4 then ((impl_beOf.f k l0).bind fun t625=>(some (4,0,0,0,t625,true))) else (if (l0.length:Int)=16 then (if 4≤(l0.length:Int) then ((impl_beOf.f k (l0.take 4)).bind fun t627=>(if 4≤8 then (if 8≤(l0.length:Int) then ((impl_beOf.f k ((l0.take 8).drop 4)).bind fun t629=>(if 8≤12 then (if 12≤(l0.length:Int) then ((impl_beOf.f k ((l0.take 12).drop 8)).bind fun t631=>((impl_beOf.f k (l0.drop 12)).bind fun t633=>(some (6,t627,t629,t631,t633,true)))) else (none)) else (none))) else (none)) else (none))) else (none)) else (some (0,0,0,0,0,false))))=some (r1,r2,r3,r4,r5,r6):=h
 clear h
 have HU2 := D H
 clear H
 go_enter Try.func68, Try.ntmps68
 go_upto_if 6 with (first|((with_reducible refine gate_dst (N:=2) rfl ?_);refine bx_ (N:=2) (cs:=#[I L 0,I L 0,I L 0,I L 0,I L 0]) (t:=32) ?_;intro gb624 hg w3 hbox hb;have n_:=an_ (below_step (pB_ HB.out) hb)<|an_ (hbox)<|an_ (bg_ hg (pB_ HB.out):w.heap.size≤gb624)<|D (bg_ hg (pB_ HB.out):w.heap.size≤gb624);clear HB;obtain ⟨HB,BK624,GW624,GE624⟩:=n_;clear hb hbox hg))
 have H := HU2.out
 clear HU2
 by_cases c4 : (l0.length : Int) = 4
 ·rw [if_pos c4] at H
  have c4b0:((l0.length:Int) == 4)=true:=beq_iff_eq.mpr c4;have c4b1:((l0.length:Int) != 4)=false:=bne_eq_false_iff_eq.mpr c4;clear c4;refine rw_ c4b0 ?_;obtain ⟨t625,A50,H⟩:=bs_.mp H;(try dsimp only at H);have A5:=D A50;clear A50;simp only [Option.some.injEq,Prod.mk.injEq] at H;obtain ⟨rfl,rfl,rfl,rfl,rfl,rfl⟩:=H
  go_wp2_with (first|((with_reducible refine gate_callee (f:=73) rfl ?_);refine goesL_ (some 9) rfl rfl Try.func73 (by kernel_rfl) rfl #[Y A0 l0.length c0] rfl Z15 ?_;(with_reducible refine (impl_beOf.calls k _ _ l0 t625 _ ?side1 ?side2 A5.out).mono ?_);(case side1=>exact pC_ (Kd.C_below HR0.out HB.out));(case side2=>exact HC0.out);rintro e w' ⟨rfl,⟨nd,rfl⟩⟩;refine ⟨_,rfl,?_⟩;(try (rw [drewN_self w3];generalize hq_:World.drewN w3 _=w3;have n0_:Aside0 (w3.heap[gb624]?=some (.cells #[I L 0,I L 0,I L 0,I L 0,I L 0] 32 (0,0))):=⟨by rw [← hq_];exact (pk_ BK624.out)⟩;have n1_:Aside0 (Below w.heap.size w w3):=⟨by rw [← hq_];exact (pB_ HB.out)⟩;clear BK624 HB hq_;have BK624:=n0_;have HB:=n1_;clear n0_ n1_));have hcz6_0:=cells5 BK624.out))
  refine bodyPost_ret (results_ct rfl _ _ gb624 32 #[I L 4,I L 0,I L 0,I L 0,I L t625] (0,0) _ rfl (by exact pP_ BK624.out) Try.underlying32 rfl (by kernel_rfl)) rfl ?_;exact ⟨er_,pB_ HB.out⟩
 ·rw [if_neg c4] at H
  have c4b0:((l0.length:Int) == 4)=false:=beq_eq_false_iff_ne.mpr c4;have c4b1:((l0.length:Int) != 4)=true:=bne_iff_ne.mpr c4;refine rw_ c4b0 ?_
  by_cases c7 : (l0.length : Int) = 16
  ·rw [if_pos c7] at H
   have c7b0 : ((l0.length : Int) == 16) = true := beq_iff_eq.mpr c7; have c7b1 : ((l0.length : Int) != 16) = false := bne_eq_false_iff_eq.mpr c7; clear c7
   by_cases c8 : 4 ≤ (l0.length : Int)
   ·rw [if_pos c8] at H
    have c8b0:=eq_true c8;have c8b1:decide (4≤(l0.length:Int))=true:=decide_eq_true c8;clear c8;obtain ⟨t627,A90,H⟩:=bs_.mp H;(try dsimp only at H);have A9:=D A90;clear A90
    by_cases c10 : 4 ≤ 8
    ·rw [if_pos c10] at H
     have c10b0 := eq_true c10; have c10b1 : decide (4 ≤ 8) = true := decide_eq_true c10; clear c10
     by_cases c11 : 8 ≤ (l0.length : Int)
     ·rw [if_pos c11] at H
      have c11b0:=eq_true c11;have c11b1:decide (8≤(l0.length:Int))=true:=decide_eq_true c11;clear c11;obtain ⟨t629,A120,H⟩:=bs_.mp H;(try dsimp only at H);have A12:=D A120;clear A120
      by_cases c13 : 8 ≤ 12
      ·rw [if_pos c13] at H
       have c13b0 := eq_true c13; have c13b1 : decide (8 ≤ 12) = true := decide_eq_true c13; clear c13
       by_cases c14 : 12 ≤ (l0.length : Int)
       ·rw [if_pos c14] at H
        have c14b0:=eq_true c14;have c14b1:decide (12≤(l0.length:Int))=true:=decide_eq_true c14;clear c14;obtain ⟨t631,A150,H⟩:=bs_.mp H;(try dsimp only at H);have A15:=D A150;clear A150;have c16b0:=eq_true (od_ Z21:12≤(l0.length:Int));obtain ⟨t633,A170,H⟩:=bs_.mp H;(try dsimp only at H);have A17:=D A170;clear A170;simp only [Option.some.injEq,Prod.mk.injEq] at H;obtain ⟨rfl,rfl,rfl,rfl,rfl,rfl⟩:=H
        try go_wp2
        have n_ := an_ (blk_drew BK624.out) <| D (below_drew1 HB.out)
        clear BK624 HB;obtain ⟨BK624,HB⟩:=n_;obtain ⟨i019,hi019,_,hsz19,_⟩:=info_parts info5;obtain ⟨hcut19,hA19,hC19⟩:=print_take_of (P:=Try.prog) (Value.int .u8) 0 22 5 .i64 Try.underlying22 hi019 hsz19 A0 c0 l0 4 (by omega) (od_ Z21) HC0.out;have HR626:=D (Kd.C_of_reads (h1:=fun _=>rfl) (hA19 _ (Kd.reads_of_C HR0.out)));have HC626:=D hC19;clear hA19 hC19 hi019 hsz19;obtain ⟨i020,hi020,_,hsz20,_⟩:=info_parts info5;obtain ⟨A20,hcut20,hA20,hC20⟩:=print_mid_of (P:=Try.prog) (Value.int .u8) 0 22 5 .i64 .i64 Try.underlying22 hi020 hsz20 A0 c0 l0 4 8 (by omega) (by first|omega|exact od_ Z21) (od_ Z21) HC0.out;have HR628:=D (Kd.C_of_reads (h1:=fun _=>rfl) (hA20 _ (Kd.reads_of_C HR0.out)));have HC628:=D hC20;clear hA20 hC20 hi020 hsz20;obtain ⟨i021,hi021,_,hsz21,_⟩:=info_parts info5;obtain ⟨A21,hcut21,hA21,hC21⟩:=print_mid_of (P:=Try.prog) (Value.int .u8) 0 22 5 .i64 .i64 Try.underlying22 hi021 hsz21 A0 c0 l0 8 12 (by omega) (by first|omega|exact od_ Z21) (od_ Z21) HC0.out;have HR630:=D (Kd.C_of_reads (h1:=fun _=>rfl) (hA21 _ (Kd.reads_of_C HR0.out)));have HC630:=D hC21;clear hA21 hC21 hi021 hsz21;obtain ⟨i022,hi022,_,hsz22,_⟩:=info_parts info5;obtain ⟨A22,hcut22,hA22,hC22⟩:=print_drop_of (P:=Try.prog) (Value.int .u8) 0 22 5 .i64 Try.underlying22 hi022 hsz22 A0 c0 l0 12 (by omega) (od_ Z21) HC0.out;have HR632:=D (Kd.C_of_reads (h1:=fun _=>rfl) (hA22 _ (Kd.reads_of_C HR0.out)));have HC632:=D hC22;clear hA22 hC22 hi022 hsz22;refine start_ (n:=15) (S:=fun w'=>True) (ds:=[]) (bz 15 0) (by kernel_rfl) rfl (by kernel_rfl) trivial (fun hHeld=>?_);refine with_tabW impl_AddrOf.tab5 impl_AddrOf.bits5 (fun HT_ HW_=>?_);generalize w3.drew=w18 at BK624 HB HR626 HR628 HR630 HR632 hHeld ⊢;refine pb_ 0 ?_;refine pb_ 1 ?_;refine pb_ 3 ?_;refine pb_ 4 ?_;refine pb_ 6 ?_;refine pb_ 7 ?_;refine pb_ 9 ?_;refine pb_ 10 ?_;refine oa_ 2 15 15 1759 HT_ (fun K hK=>?_);refine goes_ Try.func73 (by kernel_rfl) rfl #[Y A0 (l0.take 4).length c0] (by rfl) rfl rfl (by (try simp only [List.map_toArray,List.map_cons,List.map_nil]);first|done|(rw [show (l0.take 4).length=4 from (by rw [List.length_take];have h_:(4:Int)≤(l0.length:Int):=od_ Z21;omega)] <;> rfl)|rfl|(simp only [List.length_drop,List.length_take];rfl)) ?_;with_reducible refine (impl_beOf.calls k _ _ (l0.take 4) t627 _ ?side1 ?side2 A9.out).mono ?_
        (case side1=>exact pC_ (Kd.C_below HR626.out HB.out));(case side2=>exact HC626.out);rintro e w' ⟨rfl,⟨nd,rfl⟩⟩;refine ⟨_,rfl,?_⟩;refine hK.out _ _ trivial (fun hHeld=>?_);clear hK K;refine nx_ (N:=some 15) ?_;refine oa_ 5 18 15 1791 HT_ (fun K hK=>?_);refine goes_ Try.func73 (by kernel_rfl) rfl #[Y A20 ((l0.take 8).drop 4).length (c0 - 4)] (by rfl) rfl rfl (by (try simp only [List.map_toArray,List.map_cons,List.map_nil]);first|done|(rw [show ((l0.take 8).drop 4).length=(8 - 4) from (by rw [List.length_drop,List.length_take];have h_:(8:Int)≤(l0.length:Int):=od_ Z21;omega)] <;> rfl)|rfl|(simp only [List.length_drop,List.length_take];rfl)) ?_;with_reducible refine (impl_beOf.calls k _ _ ((l0.take 8).drop 4) t629 _ ?side1 ?side2 A12.out).mono ?_
        (case side1=>exact pC_ (Kd.C_below HR628.out (pB_ HB.out)));(case side2=>exact HC628.out);rintro e w' ⟨rfl,⟨nd,rfl⟩⟩;refine ⟨_,rfl,?_⟩;refine hK.out _ _ trivial (fun hHeld=>?_);clear hK K;refine nx_ (N:=some 18) ?_;refine oa_ 8 21 15 2047 HT_ (fun K hK=>?_);refine goes_ Try.func73 (by kernel_rfl) rfl #[Y A21 ((l0.take 12).drop 8).length (c0 - 8)] (by rfl) rfl rfl (by (try simp only [List.map_toArray,List.map_cons,List.map_nil]);first|done|(rw [show ((l0.take 12).drop 8).length=(12 - 8) from (by rw [List.length_drop,List.length_take];have h_:(12:Int)≤(l0.length:Int):=od_ Z21;omega)] <;> rfl)|rfl|(simp only [List.length_drop,List.length_take];rfl)) ?_;with_reducible refine (impl_beOf.calls k _ _ ((l0.take 12).drop 8) t631 _ ?side1 ?side2 A15.out).mono ?_
        (case side1=>exact pC_ (Kd.C_below HR630.out (pB_ HB.out)));(case side2=>exact HC630.out);rintro e w' ⟨rfl,⟨nd,rfl⟩⟩;refine ⟨_,rfl,?_⟩;refine hK.out _ _ trivial (fun hHeld=>?_);clear hK K;refine nx_ (N:=some 21) ?_;refine oa_ 11 24 15 4095 HT_ (fun K hK=>?_);refine goes_ Try.func73 (by kernel_rfl) rfl #[Y A22 (l0.drop 12).length (c0 - 12)] (by rfl) rfl rfl (by (try simp only [List.map_toArray,List.map_cons,List.map_nil]);first|done|(rw [show (l0.drop 12).length=(l0.length - 12) from List.length_drop] <;> rfl)|rfl|(simp only [List.length_drop,List.length_take];rfl)) ?_;with_reducible refine (impl_beOf.calls k _ _ (l0.drop 12) t633 _ ?side1 ?side2 A17.out).mono ?_
        (case side1=>exact pC_ (Kd.C_below HR632.out (pB_ HB.out)));(case side2=>exact HC632.out);rintro e w' ⟨rfl,⟨nd,rfl⟩⟩;refine ⟨_,rfl,?_⟩;refine hK.out _ _ trivial (fun hHeld=>?_);clear hK K;refine nx_ (N:=some 24) ?_;refine pb_ 12 ?_;refine one_ (i:=13) (N:=none) (bz 15 16383) rfl rfl (one_of HT_.out (by kernel_rfl)) (by decide) (fun K hK=>?_);have hs23:w18.cell? ⟨gb624,0,none⟩=some (I L 0):=bc_ BK624.out 0;have hfs23:=blk_frozen BK624.out 0;have hs24:w18.cell? ⟨gb624,1,none⟩=some (I L 0):=bc_ BK624.out 1;have hfs24:=blk_frozen BK624.out 1;have hs25:w18.cell? ⟨gb624,2,none⟩=some (I L 0):=bc_ BK624.out 2;have hfs25:=blk_frozen BK624.out 2;have hs26:w18.cell? ⟨gb624,3,none⟩=some (I L 0):=bc_ BK624.out 3;have hfs26:=blk_frozen BK624.out 3;have hs27:w18.cell? ⟨gb624,4,none⟩=some (I L 0):=bc_ BK624.out 4;have hfs27:=blk_frozen BK624.out 4;refine skip_ (w1:=?_) (by rfl) rfl ?_ ?_;rotate_left
        ·go_simp
         rfl
        refine hK.out _ _ trivial (fun hHeld=>?_);clear hK K;refine pb_ 14 ?_;refine done_ (done_of HT_.out (by kernel_rfl)) ?_
        try go_wp2
        refine bodyPost_ret (results_ct rfl _ _ gb624 32 #[I L 6,I L t627,I L t629,I L t631,I L t633] (0,0) _ rfl (by exact pP_ BK624.out) Try.underlying32 rfl (by kernel_rfl)) rfl ?_;exact ⟨er_,pB_ HB.out⟩
       ·rw [if_neg c14] at H
        exact absurd H (by simp)
      ·rw [if_neg c13] at H
       exact absurd H (by simp)
     ·rw [if_neg c11] at H
      exact absurd H (by simp)
    ·rw [if_neg c10] at H
     exact absurd H (by simp)
   ·rw [if_neg c8] at H
    exact absurd H (by simp)
  ·rw [if_neg c7] at H
   have c7b0:((l0.length:Int) == 16)=false:=beq_eq_false_iff_ne.mpr c7;have c7b1:((l0.length:Int) != 16)=true:=bne_iff_ne.mpr c7;simp only [Option.some.injEq,Prod.mk.injEq] at H;obtain ⟨rfl,rfl,rfl,rfl,rfl,rfl⟩:=H;have hcz28_0:=cells5 BK624.out
   go_wp2
   refine bodyPost_ret (results_ct rfl _ _ gb624 32 #[I L 0,I L 0,I L 0,I L 0,I L 0] (0,0) _ rfl (by exact pP_ BK624.out) Try.underlying32 rfl (by kernel_rfl)) rfl ?_;exact ⟨er_,pB_ HB.out⟩

end Go.Proofs.Ytoacddcbiceeeab.PFnCostAdds
