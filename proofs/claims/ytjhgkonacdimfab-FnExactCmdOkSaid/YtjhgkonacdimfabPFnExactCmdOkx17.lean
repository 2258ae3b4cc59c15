-- by a program of this session's, over the kit's words
import Derived.Test.YtjhgkonacdimfabPZFnExactCmdOk
import Derived.Test.YtjhgkonacdimfabPFnExactCmdOkx0
import Derived.Test.YtjhgkonacdimfabPFnExactCmdOkx16
namespace Go.Proofs.Ytjhgkonacdimfab.PFnExactCmdOk
open Go.RowKit Go.Proofs.YtjhgkonacdimfabW.PrintWords Go.Proofs.YtjhgkonacdimfabW.PrintLast Go.Proofs.YtjhgkonacdimfabW.PrintMore Go.Proofs.YtjhgkonacdimfabV Go.Proofs.Ytjhgkonacdimfab.ZFnExactCmdOk
open Go.Value renaming int → I, slice → Y
open Go.IntKind renaming i64 → L
open Aside0 renaming mk → D
open Option renaming bind_eq_some_iff → bs_
attribute [local go_sem] max2_int min2_int max_two min_two max_three min_three max_four min_four   -- for this text's walks alone
set_option linter.unusedVariables false
set_option linter.unusedSimpArgs false

/-! ### impl_Put32: function 64 -/
def impl_Put32.f (k : Nat) (a0 : Int) : Option (List Int) := (impl_put.f k a0 4).bind fun t344 => (some t344)
set_option maxHeartbeats 8000000 in
set_option maxRecDepth 100000 in
theorem impl_Put32.calls (k : Nat) (a0 : Int) (r : List Int) (w : World) (h : impl_Put32.f k a0 = some r) :
  Calls Try.prog 64 #[I L a0] w fun e w' => ∃ v0_ : Value, e = .returned (v0_) ∧ Kd.R (Kd.int .u8) 5 w' w.heap.size (fun _ => True) v0_ r ∧ Below w.heap.size w w' := by
 have HB := D (Below.refl w.heap.size w)
 have H : ((impl_put.f k a0 4).bind fun t344 => (some t344)) = some r := h
 clear h
 obtain ⟨t344, A20, H⟩ := bs_.mp H
 (try dsimp only at H)
 have A2 := D A20
 clear A20
 obtain rfl := Option.some.inj H
 go_enter Try.func64, Try.ntmps64
 go_wp2_with (first|((with_reducible refine gate_callee (f:=69) rfl ?_);refine goesL_ (some 4) rfl rfl Try.func69 (by kernel_rfl) rfl #[I L a0,I L 4] rfl Z6 ?_;(with_reducible refine (impl_put.calls k a0 4 t344 _ A2.out).mono ?_);rintro e w3 ⟨v345,rfl,ho0,hb⟩;refine ⟨_,rfl,?_⟩;have n_:=an_ (Kd.R_lower ho0 (below_size (pB_ HB.out)))<|D (below_step (pB_ HB.out) hb);clear HB;obtain ⟨HO346,HB⟩:=n_;(try clear hb);(try clear ho0)))
 go_ret
 exact ⟨_,er_,by (with_reducible repeat (first|apply Kd.R_alloc|apply Kd.R_drewN|apply Kd.R_drew));exact HO346.out,pB_ HB.out⟩

/-! ### slices_Grow_byte_byte: function 70 -/
def slices_Grow_byte_byte.f  (a1 : Int) : Option (List Int) := if a1 < 0 then (none) else (if (wrap64 (a1)) > 0 then (if 0 ≤ (wrap64 (a1)) then (if ([] : List Int).length + (wrap64 (a1) : Int).toNat < 140737488355328 then ((some (([] : List Int) ++ List.replicate (wrap64 (a1) : Int).toNat 0 : List Int)).bind fun y347 => (if 0 ≤ (y347.length : Int) then (some (y347.take (0 : Int).toNat)) else (none))) else (none)) else (none)) else (some ([] : List Int)))
set_option maxHeartbeats 8000000 in
set_option maxRecDepth 100000 in
theorem slices_Grow_byte_byte.calls  (a1 : Int) (r : List Int) (w : World) (h : slices_Grow_byte_byte.f a1 = some r) :
  Calls Try.prog 70 #[Y none 0 0, I L a1] w fun e w' => ∃ v0_ : Value, e = .returned (v0_) ∧ Kd.R (Kd.int .u8) 5 w' w.heap.size (fun _ => True) v0_ r ∧ Below w.heap.size w w' := by
 have HB := D (Below.refl w.heap.size w)
 have H:(if a1 < 0 then (none) else (if (wrap64 (a1)) > 0 then (if 0≤(wrap64 (a1)) then (if ([]:List Int).length + (wrap64 (a1):Int).toNat < 140737488355328 then ((some (([]:List Int) ++ List.replicate (wrap64 (a1):Int).toNat 0:List Int)).bind fun y347=>(if 0≤(y347.length:Int) then (some (y347.take (0:Int).toNat)) else (none))) else (none)) else (none)) else (some ([]:List Int))))=some r:=h
 clear h
 by_cases c3 : a1 < 0
 ·rw [if_pos c3] at H
  exact absurd H (by simp)
 ·rw [if_neg c3] at H
  have c3b0 : decide (a1 < 0) = false := decide_eq_false c3; clear c3
  by_cases c4 : (wrap64 (a1)) > 0
  ·rw [if_pos c4] at H
   have c4b0 : decide (0 < (wrap64 (a1))) = true := decide_eq_true c4; clear c4; obtain ⟨ji5, hji5⟩ : ∃ j_ : Int, (wrap64 (a1)) = j_ := ⟨_, rfl⟩
   replace H:(if 0≤(ji5) then (if ([]:List Int).length + (ji5:Int).toNat < 140737488355328 then ((some (([]:List Int) ++ List.replicate (ji5:Int).toNat 0:List Int)).bind fun y347=>(if 0≤(y347.length:Int) then (some (y347.take (0:Int).toNat)) else (none))) else (none)) else (none))=some r:=by first|(rw [hji5] at H;exact H)|(simp only [hji5] at H ⊢;exact H)
   (try rw [hji5] at c4b0); have hji5w : (IntKind.i64.wrap (a1)) = ji5 := (i64_w _).trans hji5
   by_cases c6 : 0 ≤ (ji5)
   ·rw [if_pos c6] at H
    have c6b0 := eq_true c6; have c6b1 : decide (0 ≤ (ji5)) = true := decide_eq_true c6; clear c6
    by_cases c7 : ([] : List Int).length + (ji5 : Int).toNat < 140737488355328
    ·rw [if_pos c7] at H
     have LMc7 := D c7; clear c7; obtain ⟨y347, hy347⟩ : ∃ y_ : List Int, y_ = (([] : List Int) ++ List.replicate (ji5 : Int).toNat 0) := ⟨_, rfl⟩
     replace H:(if 0≤(y347.length:Int) then (some (y347.take (0:Int).toNat)) else (none))=some r:=by first|(rw [hy347];with_reducible exact H)|(have H2_:=(Option.bind_some _ _).symm.trans H;rw [hy347];with_reducible exact H2_)|(have H2_:=(Option.bind_some _ _).symm.trans H;with_reducible exact H2_)|with_reducible exact H|(rw [hy347];exact H)|exact H
     have Ny347 := D hy347; clear hy347
     by_cases c8 : 0 ≤ (y347.length : Int)
     ·rw [if_pos c8] at H
      have c8b0 := eq_true c8; have c8b1 : decide (0 ≤ (y347.length : Int)) = true := decide_eq_true c8; clear c8; obtain ⟨y350, hy350⟩ : ∃ y_ : List Int, y_ = (y347.take (0 : Int).toNat) := ⟨_, rfl⟩
      replace H:(some y350)=some r:=by first|(rw [hy350];with_reducible exact H)|(have H2_:=(Option.bind_some _ _).symm.trans H;rw [hy350];with_reducible exact H2_)|(have H2_:=(Option.bind_some _ _).symm.trans H;with_reducible exact H2_)|with_reducible exact H|(rw [hy350];exact H)|exact H
      have Ny350 := D hy350; clear hy350; obtain rfl := Option.some.inj H; go_enter Try.func70, Try.ntmps70
      go_wp2_with (first|(at_builtin;refine Kd.R_append_zeros (Kd.int .u8) (w0:=w) w.heap.size rfl (.tmp 20) (.tmp 21) 82 3 5 (.int .u8 0) 1 rfl Try.underlying82 Try.underlying3 info5 rfl (by decide) (by omega) (Y none 0 0) ([]:List Int) 0 (ji5:Int) (fun _=>True) rfl rfl rfl ?aF ?aO (od_ Z10) ?aB ?aS ?aL ?_;(case aB=>exact (pB_ HB.out));(case aF=>exact (fun _ _=>trivial));(case aO=>exact ((Kd.R_nil _ _ _ _ (fun _=>True))));(case aS=>exact (below_size (pB_ HB.out)));(case aL=>have:=LMc7.out;omega);intro v348 w9 ho hb hg hat;rw [← Ny347.out] at ho;have n0_:=D (hb);have n1_:=D (ho);clear HB;have HB:=n0_;have HO349:=n1_;clear n0_ n1_;clear ho hb hg hat;obtain ⟨Ao10,co10,eo10⟩:=Kd.R_slice HO349.out;subst eo10;have q11:(0:Int)≤((y347.length:Int):Int):=od_ Z10;obtain ⟨i011,hi011,_,hsz11,_⟩:=info_parts info5;have hcut11:=cut_to (P:=Try.prog) 82 5 .i64 Try.underlying82 hi011 Ao10 y347.length co10 0 (by omega) q11 (Kd.R_reads' HO349.out).2.1;have hr11:=Kd.R_take (m:=(0:Int).toNat) HO349.out (by omega);have hy11:y350.length=(0:Int).toNat:=(by rw [Ny350.out,List.length_take];omega);rw [← Ny350.out] at hr11;rw [← hy11] at hr11 hcut11;clear hy11 hi011 hsz11 HO349;have HO352:=D hr11;clear hr11;replace q11:=eq_true q11))
      go_ret;exact ⟨_,by first|rfl|(simp [errW_none,errW_some] <;> rfl)|(simp only [← hji5];first|rfl|(simp [errW_none,errW_some] <;> rfl))|(simp [*,errW_none,errW_some] <;> rfl),by (with_reducible repeat (first|apply Kd.R_alloc|apply Kd.R_drewN|apply Kd.R_drew));exact HO352.out,pB_ HB.out⟩
     ·rw [if_neg c8] at H
      exact absurd H (by simp)
    ·rw [if_neg c7] at H
     exact absurd H (by simp)
   ·rw [if_neg c6] at H
    exact absurd H (by simp)
  ·rw [if_neg c4] at H
   have c4b0 : decide (0 < (wrap64 (a1))) = false := decide_eq_false c4; clear c4; obtain rfl := Option.some.inj H; go_enter Try.func70, Try.ntmps70
   go_wp2
   go_ret;exact ⟨_,er_,by first|exact Kd.R_nil _ _ _ _ _|exact Kd.N_nil _ _ _ _ _|exact Kd.V_nil _ _ _ _ _|exact Kd.Q_nil _ _ _ _ _|exact Kd.S_nil _ _ _ _ _,pB_ HB.out⟩

/-! ### slices_Concat_byte_byte: function 65 -/
mutual
def slices_Concat_byte_byte.l0 : Nat → List (List Int) → Int → List (List Int) → Int → Int → Option (List Int)
 | 0, _, _, _, _, _ => none
 | k + 1,x0,x3,x9,x10,x11=>if x11 < x10 then (if 0≤x11 then (if x11 < (x9.length:Int) then (if (wrap64 (x3 + ((rd_L8 x9 x11).length:Int))) < 0 then (none) else (slices_Concat_byte_byte.l0 k x0 (wrap64 (x3 + ((rd_L8 x9 x11).length:Int))) x9 x10 (wrap64 (x11 + 1)))) else (none)) else (none)) else ((slices_Grow_byte_byte.f x3).bind fun t354=>(slices_Concat_byte_byte.l1 k t354 x0 (x0.length:Int) 0))
def slices_Concat_byte_byte.l1 : Nat → List Int → List (List Int) → Int → Int → Option (List Int)
 | 0, _, _, _, _ => none
 | k + 1,x6,x25,x26,x27=>if x27 < x26 then (if 0≤x27 then (if x27 < (x25.length:Int) then (if x6.length + (rd_L8 x25 x27).length < 140737488355328 then (slices_Concat_byte_byte.l1 k (x6 ++ (rd_L8 x25 x27)) x25 x26 (wrap64 (x27 + 1))) else (none)) else (none)) else (none)) else (some x6)
end
def slices_Concat_byte_byte.f (k : Nat) (l0 : List (List Int)) : Option (List Int) := slices_Concat_byte_byte.l0 k l0 0 l0 (l0.length : Int) 0
set_option maxHeartbeats 8000000 in
set_option maxRecDepth 100000 in
theorem slices_Concat_byte_byte.calls (k : Nat) (A0 : Option Addr) (c0 : Nat) (l0 : List (List Int)) (r : List Int) (w : World) (hr0 : Kd.C (Kd.slice 5 (Kd.int .u8)) w A0 l0.length l0) (hc0 : l0.length ≤ c0) (h : slices_Concat_byte_byte.f k l0 = some r) :
  Calls Try.prog 65 #[Y A0 l0.length c0] w fun e w' => ∃ v0_ : Value, e = .returned (v0_) ∧ Kd.R (Kd.int .u8) 5 w' w.heap.size (fun _ => True) v0_ r ∧ Below w.heap.size w w' := by
 have HR0 := D hr0
 have HC0 := D hc0
 clear hr0 hc0
 have HB := D (Below.refl w.heap.size w)
 have H : (slices_Concat_byte_byte.l0 k l0 0 l0 (l0.length : Int) 0) = some r := h
 clear h
 have H' := D H
 clear H
 go_enter Try.func65, Try.ntmps65
 go_wp2
 go_loopg [3,11] k (fun kq v3 v11 w'=>∃ (x3_1:Int) (x11_1:Int),v3=I L x3_1∧v11=I L x11_1∧Aside0 (slices_Concat_byte_byte.l0 kq l0 x3_1 l0 (l0.length:Int) x11_1=some r)∧Aside0 (kq≤k)∧Aside0 (Below w.heap.size w w'))
 case atStart => exact ⟨(0), (0), Z11, Z11, H', ⟨Nat.le_refl _⟩, ⟨pB_ HB.out⟩⟩
 case round =>
  clear H'; obtain ⟨x3_1, x11_1, rfl, rfl, HA, HK1, HB⟩ := hrel
  cases gk with
  | zero => exact absurd HA.out (by simp [slices_Concat_byte_byte.l0])
  | succ k1 =>
   have H := HA.out; clear HA; simp only [slices_Concat_byte_byte.l0] at H
   by_cases c2 : x11_1 < (l0.length : Int)
   ·rw [if_pos c2] at H
    have c2b0 : decide (x11_1 < (l0.length : Int)) = true := decide_eq_true c2; clear c2
    by_cases c3 : 0 ≤ x11_1
    ·rw [if_pos c3] at H
     have c3b0 : decide (0 ≤ x11_1) = true := decide_eq_true c3; clear c3
     by_cases c4 : x11_1 < (l0.length : Int)
     ·rw [if_pos c4] at H
      have c4b0 : decide (x11_1 < (l0.length : Int)) = true := decide_eq_true c4; clear c4
      by_cases c5 : (wrap64 (x3_1 + ((rd_L8 l0 x11_1).length : Int))) < 0
      ·rw [if_pos c5] at H
       exact absurd H (by simp)
      ·rw [if_neg c5] at H
       have c5b0:decide ((wrap64 (x3_1 + ((rd_L8 l0 x11_1).length:Int))) < 0)=false:=decide_eq_false c5;clear c5;have H':=D H;clear H;have p353:0≤(x11_1:Int):=od_ Z10;have q353:x11_1 < (l0.length:Int):=od_ Z10;obtain ⟨ad353,A353_0,c353_0,e353,hx353_0,hl353_0,hi353_0⟩:=at_L8 HR0.out x11_1 p353 q353;cases e353;replace hx353_0:=rc_ HB.out hx353_0;have HR353_0:=D hi353_0;have HC353_0:=D hl353_0;clear hi353_0 hl353_0;replace p353:=eq_true p353;replace q353:=eq_true q353
       go_wp2
       go_roundg k1
       case measure => have := HK1.out; omega
       case rel => exact ⟨(wrap64 (x3_1 + ((rd_L8 l0 x11_1).length : Int))), (wrap64 (x11_1 + 1)), Z11, Z11, H', ⟨by have := HK1.out; omega⟩, ⟨pB_ HB.out⟩⟩
     ·rw [if_neg c4] at H
      exact absurd H (by simp)
    ·rw [if_neg c3] at H
     exact absurd H (by simp)
   ·rw [if_neg c2] at H
    have c2b0:decide (x11_1 < (l0.length:Int))=false:=decide_eq_false c2;clear c2;obtain ⟨t354,A60,H⟩:=bs_.mp H;(try dsimp only at H);have A6:=D A60;clear A60;have H':=D H;clear H
    go_wp2_with (first|((with_reducible refine gate_callee (f:=70) rfl ?_);refine goesL_ (some 24) rfl rfl Try.func70 (by kernel_rfl) rfl #[Y none 0 0,I L x3_1] rfl Z6 ?_;(with_reducible refine (slices_Grow_byte_byte.calls  x3_1 t354 _ A6.out).mono ?_);rintro e w7 ⟨v355,rfl,ho0,hb⟩;refine ⟨_,rfl,?_⟩;have n_:=an_ (Kd.R_lower ho0 (below_size (pB_ HB.out)))<|D (below_step (pB_ HB.out) hb);clear HB;obtain ⟨HO356,HB⟩:=n_;(try clear hb);(try clear ho0)))
    go_loopg [6,27] k1 (fun kq v6 v27 w'=>∃ (x6_2:List Int) (x27_2:Int),v27=I L x27_2∧Aside0 (slices_Concat_byte_byte.l1 kq x6_2 l0 (l0.length:Int) x27_2=some r)∧Aside0 (kq≤k1)∧Aside0 (Kd.R (Kd.int .u8) 5 w' w.heap.size (fun _=>True) v6 x6_2)∧Aside0 (Below w.heap.size w w'))
    case atStart => exact ⟨(t354), (0), Z11, H', ⟨Nat.le_refl _⟩, ⟨pR_ HO356.out⟩, ⟨pB_ HB.out⟩⟩
    case round =>
     clear H'
     (try clear c2);(try clear c2b0);(try clear p2);(try clear c3);(try clear c3b0);(try clear p3);(try clear q3);(try clear hx3);(try clear c4);(try clear c4b0);(try clear c5);(try clear c5b0);(try clear c6);(try clear p6);(try clear c7);(try clear hx353_0);(try clear p353);(try clear q353)
     obtain ⟨x6_2, x27_2, rfl, HA, HK2, HO_6, HB⟩ := hrel
     cases gk with
     | zero => exact absurd HA.out (by simp [slices_Concat_byte_byte.l1])
     | succ k2 =>
      have H := HA.out; clear HA; simp only [slices_Concat_byte_byte.l1] at H
      by_cases c8 : x27_2 < (l0.length : Int)
      ·rw [if_pos c8] at H
       have c8b0 : decide (x27_2 < (l0.length : Int)) = true := decide_eq_true c8; clear c8
       by_cases c9 : 0 ≤ x27_2
       ·rw [if_pos c9] at H
        have c9b0 : decide (0 ≤ x27_2) = true := decide_eq_true c9; clear c9
        by_cases c10 : x27_2 < (l0.length : Int)
        ·rw [if_pos c10] at H
         have c10b0 : decide (x27_2 < (l0.length : Int)) = true := decide_eq_true c10; clear c10
         by_cases c11 : x6_2.length + (rd_L8 l0 x27_2).length < 140737488355328
         ·rw [if_pos c11] at H
          have LMc11 := D c11; clear c11; obtain ⟨y358, hy358⟩ : ∃ y_ : List Int, y_ = (x6_2 ++ (rd_L8 l0 x27_2)) := ⟨_, rfl⟩
          replace H:(slices_Concat_byte_byte.l1 k2 y358 l0 (l0.length:Int) (wrap64 (x27_2 + 1)))=some r:=by first|(rw [hy358];with_reducible exact H)|(have H2_:=(Option.bind_some _ _).symm.trans H;rw [hy358];with_reducible exact H2_)|(have H2_:=(Option.bind_some _ _).symm.trans H;with_reducible exact H2_)|with_reducible exact H|(rw [hy358];exact H)|exact H
          have Ny358:=D hy358;clear hy358;have H':=D H;clear H;have p357:0≤(x27_2:Int):=od_ Z10;have q357:x27_2 < (l0.length:Int):=od_ Z10;obtain ⟨ad357,A357_0,c357_0,e357,hx357_0,hl357_0,hi357_0⟩:=at_L8 HR0.out x27_2 p357 q357;cases e357;replace hx357_0:=rc_ HB.out hx357_0;have HR357_0:=D hi357_0;have HC357_0:=D hl357_0;clear hi357_0 hl357_0;replace p357:=eq_true p357;replace q357:=eq_true q357
          go_wp2_with (first|((with_reducible refine gate_builtin (b:=.append) (xs:=#[.tmp 31,.tmp 32]) rfl ?_);at_builtin;refine Kd.R_append_rows (Kd.int .u8) (w0:=w) w.heap.size rfl (.tmp 31) (.tmp 32) 82 5 (.int .u8 0) 1 rfl Try.underlying82 info5 rfl (by decide) (by omega) u6 x6_2 (rd_L8 l0 x27_2) _ _ _ (fun _=>True) (fun _=>False) rfl rfl ?aO ?aR (fun _ _ h=>h) (fun _ h=>h.elim) ?aF ?aB ?aS ?aL ?_;(case aR=>exact pC_ (Kd.C_below HR357_0.out HB.out));(case aB=>exact (pB_ HB.out));(case aF=>exact (fun _ _=>trivial));(case aO=>exact (pR_ HO_6.out));(case aS=>exact (below_size (pB_ HB.out)));(case aL=>have:=LMc11.out;omega);intro v359 w12 ho hb hg hat;rw [← Ny358.out] at ho;have n_:=an_ (hb)<|D (ho);clear HB HO_6;obtain ⟨HB,HO360⟩:=n_;clear ho hb hg hat))
          go_roundg k2
          case measure => have := HK1.out; have := HK2.out; omega
          case rel => exact ⟨(y358), (wrap64 (x27_2 + 1)), Z11, H', ⟨by have := HK1.out; have := HK2.out; omega⟩, ⟨pR_ HO360.out⟩, ⟨pB_ HB.out⟩⟩
         ·rw [if_neg c11] at H
          exact absurd H (by simp)
        ·rw [if_neg c10] at H
         exact absurd H (by simp)
       ·rw [if_neg c9] at H
        exact absurd H (by simp)
      ·rw [if_neg c8] at H
       have c8b0 : decide (x27_2 < (l0.length : Int)) = false := decide_eq_false c8; clear c8; obtain rfl := Option.some.inj H
       go_wp2
       go_ret;exact ⟨_,er_,by (with_reducible repeat (first|apply Kd.R_alloc|apply Kd.R_drewN|apply Kd.R_drew));exact HO_6.out,pB_ HB.out⟩

/-! ### impl_AddrBytes: function 59 -/
def impl_AddrBytes.f (k : Nat) (a0_0 a0_1 a0_2 a0_3 a0_4 : Int) : Option (List Int) := (impl_AddrOk.f a0_0 a0_1 a0_2 a0_3 a0_4).bind fun t362 => (if t362 = true then (if a0_0 = 4 then ((impl_Put32.f k a0_4).bind fun t363 => (some t363)) else ((impl_Put32.f k a0_1).bind fun t366 => ((impl_Put32.f k a0_2).bind fun t369 => ((impl_Put32.f k a0_3).bind fun t372 => ((impl_Put32.f k a0_4).bind fun t375 => ((slices_Concat_byte_byte.f k (([t366, t369, t372, t375] : List (List Int)))).bind fun t381 => (some t381))))))) else (some ([] : List Int)))
def impl_AddrBytes.T5 : Bool × List (List Nat × List Nat) := (true, [([], []), ([0], [0]), ([1], [1]), ([], []), ([3], [3]), ([4, 2], [4]), ([], []), ([6], [6]), ([7, 5], [7]), ([], []), ([9], [9]), ([10, 8], [10]), ([2, 5, 8, 11], [2, 5, 8, 11]), ([12, 11], [12]), ([13, 13, 0, 1, 2, 3, 4, 5, 6, 7, 8, 9, 10, 11, 12, 13], [13])])
def impl_AddrBytes.B5 : List Nat := [0, 1, 3, 0, 8, 31, 0, 64, 255, 0, 512, 2047, 4095, 8191, 16383]
theorem impl_AddrBytes.tab5 : rtab .any (opsOf Try.f59 5) = impl_AddrBytes.T5 := by kernel_rfl
theorem impl_AddrBytes.bits5 : waitsOk impl_AddrBytes.T5.2 impl_AddrBytes.B5 = true := by kernel_rfl
set_option maxHeartbeats 8000000 in
set_option maxRecDepth 100000 in
theorem impl_AddrBytes.calls (k : Nat) (a0_0 a0_1 a0_2 a0_3 a0_4 : Int) (r : List Int) (w : World) (h : impl_AddrBytes.f k a0_0 a0_1 a0_2 a0_3 a0_4 = some r) :
  Calls Try.prog 59 #[.agg #[I L a0_0,I L a0_1,I L a0_2,I L a0_3,I L a0_4]] w fun e w'=>∃ v0_:Value,e=.returned (v0_)∧Kd.R (Kd.int .u8) 5 w' w.heap.size (fun _=>True) v0_ r∧Below w.heap.size w w':=by
 have hu35 := Try.underlying35
 have HB := D (Below.refl w.heap.size w)
 have H:((impl_AddrOk.f a0_0 a0_1 a0_2 a0_3 a0_4).bind fun t362=>(if t362=true then (if a0_0=4 then ((impl_Put32.f k a0_4).bind fun t363=>(some t363)) else ((impl_Put32.f k a0_1).bind fun t366=>((impl_Put32.f k a0_2).bind fun t369=>((impl_Put32.f k a0_3).bind fun t372=>((impl_Put32.f k a0_4).bind fun t375=>((slices_Concat_byte_byte.f k (([t366,t369,t372,t375]:List (List Int)))).bind fun t381=>(some t381))))))) else (some ([]:List Int))))=some r:=h
 clear h
 obtain ⟨t362, A20, H⟩ := bs_.mp H
 (try dsimp only at H)
 have A2 := D A20
 clear A20
 have HU3 := D H
 clear H
 go_enter Try.func59, Try.ntmps59
 go_upto_if 3 with (first|((with_reducible refine gate_dst (N:=1) rfl ?_);refine bx_ (N:=1) (cs:=#[I L a0_0,I L a0_1,I L a0_2,I L a0_3,I L a0_4]) (t:=35) ?_;intro gb361 hg w4 hbox hb;have n_:=an_ (below_step (pB_ HB.out) hb)<|an_ (hbox)<|an_ (bg_ hg (pB_ HB.out):w.heap.size≤gb361)<|D (bg_ hg (pB_ HB.out):w.heap.size≤gb361);clear HB;obtain ⟨HB,BK361,GW361,GE361⟩:=n_;clear hb hbox hg;have hcz5_0:=cells5 BK361.out)|((with_reducible refine gate_callee (f:=49) rfl ?_);refine goesL_ (some 5) rfl rfl Try.func49 (by kernel_rfl) rfl #[.agg #[I L a0_0,I L a0_1,I L a0_2,I L a0_3,I L a0_4]] rfl Z6 ?_;(with_reducible refine (impl_AddrOk.calls a0_0 a0_1 a0_2 a0_3 a0_4 t362 _ A2.out).mono ?_);rintro e w6 ⟨rfl,hb⟩;refine ⟨_,rfl,?_⟩;have n_:=an_ (blk_below (pk_ BK361.out) hb)<|D (below_step (pB_ HB.out) hb);clear BK361 HB;obtain ⟨BK361,HB⟩:=n_;(try clear hb)))
 have H := HU3.out
 clear HU3
 by_cases c7 : t362 = true
 ·subst c7
  rw [if_pos rfl] at H
  by_cases c8 : a0_0 = 4
  ·rw [if_pos c8] at H
   have c8b0:(a0_0 == 4)=true:=beq_iff_eq.mpr c8;have c8b1:(a0_0 != 4)=false:=bne_eq_false_iff_eq.mpr c8;clear c8;refine rw_ c8b0 ?_;obtain ⟨t363,A90,H⟩:=bs_.mp H;(try dsimp only at H);have A9:=D A90;clear A90;obtain rfl:=Option.some.inj H;have hcz10_0:=cells5 BK361.out
   go_wp2_with (first|((with_reducible refine gate_callee (f:=64) rfl ?_);refine goesL_ (some 13) rfl rfl Try.func64 (by kernel_rfl) rfl #[I L a0_4] rfl Z6 ?_;(with_reducible refine (impl_Put32.calls k a0_4 t363 _ A9.out).mono ?_);rintro e w11 ⟨v364,rfl,ho0,hb⟩;refine ⟨_,rfl,?_⟩;have n_:=an_ (Kd.R_lower ho0 (below_size (pB_ HB.out)))<|an_ (blk_below (pk_ BK361.out) hb)<|D (below_step (pB_ HB.out) hb);clear BK361 HB;obtain ⟨HO365,BK361,HB⟩:=n_;(try clear hb);(try clear ho0)))
   go_ret;exact ⟨_,er_,by (with_reducible repeat (first|apply Kd.R_alloc|apply Kd.R_drewN|apply Kd.R_drew));exact HO365.out,pB_ HB.out⟩
  ·rw [if_neg c8] at H
   have c8b0:(a0_0 == 4)=false:=beq_eq_false_iff_ne.mpr c8;have c8b1:(a0_0 != 4)=true:=bne_iff_ne.mpr c8;refine rw_ c8b0 ?_;obtain ⟨t366,A120,H⟩:=bs_.mp H;(try dsimp only at H);have A12:=D A120;clear A120;obtain ⟨t369,A130,H⟩:=bs_.mp H;(try dsimp only at H);have A13:=D A130;clear A130;obtain ⟨t372,A140,H⟩:=bs_.mp H;(try dsimp only at H);have A14:=D A140;clear A140;obtain ⟨t375,A150,H⟩:=bs_.mp H;(try dsimp only at H);have A15:=D A150;clear A150;obtain ⟨y378,hy378⟩:∃ y_:List (List Int),y_=(([t366,t369,t372,t375]:List (List Int))):=⟨_,rfl⟩
   replace H:((slices_Concat_byte_byte.f k y378).bind fun t381=>(some t381))=some r:=by first|(rw [hy378];with_reducible exact H)|(have H2_:=(Option.bind_some _ _).symm.trans H;rw [hy378];with_reducible exact H2_)|(have H2_:=(Option.bind_some _ _).symm.trans H;with_reducible exact H2_)|with_reducible exact H|(rw [hy378];exact H)|exact H
   have Ny378:=D hy378;clear hy378;obtain ⟨t381,A160,H⟩:=bs_.mp H;(try dsimp only at H);have A16:=D A160;clear A160;obtain rfl:=Option.some.inj H;have hcz17_0:=cells5 BK361.out
   try go_wp2
   have n_ := an_ (blk_drew BK361.out) <| D (below_drew1 HB.out)
   clear BK361 HB;obtain ⟨BK361,HB⟩:=n_;refine start_ (n:=15) (S:=fun w'=>w'.cell? ⟨gb361,0,none⟩=some (I L a0_0)∧w'.cell? ⟨gb361,1,none⟩=some (I L a0_1)∧w'.cell? ⟨gb361,2,none⟩=some (I L a0_2)∧w'.cell? ⟨gb361,3,none⟩=some (I L a0_3)∧w'.cell? ⟨gb361,4,none⟩=some (I L a0_4)) (ds:=[]) (bz 15 0) (by kernel_rfl) rfl (by kernel_rfl) (be5_ BK361.out) (fun hHeld=>?_);refine with_tabW impl_AddrBytes.tab5 impl_AddrBytes.bits5 (fun HT_ HW_=>?_);generalize w6.drew=w18 at BK361 HB hHeld ⊢;refine pb_ 0 ?_;refine pb_ 3 ?_;refine pb_ 6 ?_;refine pb_ 9 ?_;refine tb_ 1 rfl rfl hHeld Z9 ?_;refine tb_ 4 rfl rfl hHeld Z9 ?_;refine tb_ 7 rfl rfl hHeld Z9 ?_;refine tb_ 10 rfl rfl hHeld Z9 ?_;refine oa_ 2 16 15 1759 HT_ (fun K hK=>?_);refine goes_ Try.func64 (by kernel_rfl) rfl #[I L a0_1] (by rfl) rfl rfl Z6 ?_;with_reducible refine (impl_Put32.calls k a0_1 t366 _ A12.out).mono ?_
   rintro e w19 ⟨v367, rfl, ho0, hb⟩; refine ⟨_, rfl, ?_⟩
   have n_ := an_ (Kd.R_lower ho0 (below_size (pB_ HB.out))) <| an_ (blk_below (pk_ BK361.out) hb) <| D (below_step (pB_ HB.out) hb)
   clear BK361 HB;obtain ⟨HO368,BK361,HB⟩:=n_;refine hK.out _ _ (be5_ BK361.out) (fun hHeld=>?_);clear hK K;refine nx_ (N:=some 16) ?_;refine oa_ 5 19 15 1791 HT_ (fun K hK=>?_);refine goes_ Try.func64 (by kernel_rfl) rfl #[I L a0_2] (by rfl) rfl rfl Z6 ?_;with_reducible refine (impl_Put32.calls k a0_2 t369 _ A13.out).mono ?_
   rintro e w20 ⟨v370, rfl, ho0, hb⟩; refine ⟨_, rfl, ?_⟩
   have n_:=an_ (Kd.R_elder' (pR_ HO368.out) (Kd.R_base ho0) hb)<|an_ (Kd.R_lower (nw_ ho0 (pR_ HO368.out)) (below_size (pB_ HB.out)))<|an_ (blk_below (pk_ BK361.out) hb)<|D (below_step (pB_ HB.out) hb)
   clear HO368 BK361 HB;obtain ⟨HO368,HO371,BK361,HB⟩:=n_;refine hK.out _ _ (be5_ BK361.out) (fun hHeld=>?_);clear hK K;refine nx_ (N:=some 19) ?_;refine oa_ 8 22 15 2047 HT_ (fun K hK=>?_);refine goes_ Try.func64 (by kernel_rfl) rfl #[I L a0_3] (by rfl) rfl rfl Z6 ?_;with_reducible refine (impl_Put32.calls k a0_3 t372 _ A14.out).mono ?_
   rintro e w21 ⟨v373, rfl, ho0, hb⟩; refine ⟨_, rfl, ?_⟩
   have n_:=an_ (Kd.R_elder' (pR_ HO368.out) (Kd.R_base ho0) hb)<|an_ (Kd.R_elder' (pR_ HO371.out) (Kd.R_base ho0) hb)<|an_ (Kd.R_lower (nw_ (nw_ ho0 (pR_ HO368.out)) (pR_ HO371.out)) (below_size (pB_ HB.out)))<|an_ (blk_below (pk_ BK361.out) hb)<|D (below_step (pB_ HB.out) hb)
   clear HO368 HO371 BK361 HB;obtain ⟨HO368,HO371,HO374,BK361,HB⟩:=n_;refine hK.out _ _ (be5_ BK361.out) (fun hHeld=>?_);clear hK K;refine nx_ (N:=some 22) ?_;refine oa_ 11 25 15 4095 HT_ (fun K hK=>?_);refine goes_ Try.func64 (by kernel_rfl) rfl #[I L a0_4] (by rfl) rfl rfl Z6 ?_;with_reducible refine (impl_Put32.calls k a0_4 t375 _ A15.out).mono ?_
   rintro e w22 ⟨v376, rfl, ho0, hb⟩; refine ⟨_, rfl, ?_⟩
   have n_:=an_ (Kd.R_elder' (pR_ HO368.out) (Kd.R_base ho0) hb)<|an_ (Kd.R_elder' (pR_ HO371.out) (Kd.R_base ho0) hb)<|an_ (Kd.R_elder' (pR_ HO374.out) (Kd.R_base ho0) hb)<|an_ (Kd.R_lower (nw_ (nw_ (nw_ ho0 (pR_ HO368.out)) (pR_ HO371.out)) (pR_ HO374.out)) (below_size (pB_ HB.out)))<|an_ (blk_below (pk_ BK361.out) hb)<|D (below_step (pB_ HB.out) hb)
   clear HO368 HO371 HO374 BK361 HB;obtain ⟨HO368,HO371,HO374,HO377,BK361,HB⟩:=n_;obtain ⟨Ao23,co23,eo23⟩:=Kd.R_slice HO368.out;(first|subst eo23|obtain ⟨rfl,rfl⟩:=sl_inj eo23);obtain ⟨Ao24,co24,eo24⟩:=Kd.R_slice HO371.out;(first|subst eo24|obtain ⟨rfl,rfl⟩:=sl_inj eo24);obtain ⟨Ao25,co25,eo25⟩:=Kd.R_slice HO374.out;(first|subst eo25|obtain ⟨rfl,rfl⟩:=sl_inj eo25);obtain ⟨Ao26,co26,eo26⟩:=Kd.R_slice HO377.out;(first|subst eo26|obtain ⟨rfl,rfl⟩:=sl_inj eo26);refine hK.out _ _ (be5_ BK361.out) (fun hHeld=>?_);clear hK K;refine nx_ (N:=some 25) ?_;refine oa_ 12 26 15 8191 HT_ (fun K hK=>?_);refine Kd.N_lit_step (Kd.slice 5 (Kd.int .u8)) _ 82 ?hg (N':=26) ?hd (xs:=([t366,t369,t372,t375]:List (List Int))) (inner:=[Y Ao23 t366.length co23,Y Ao24 t369.length co24,Y Ao25 t372.length co25,Y Ao26 t375.length co26]) (ok:=(fun k_=>k_≠gb361)) (okp:=(fun k_=>k_≠gb361)) ?hr ?hp (fun _ hk=>hk) ((show ∀ k_,w22.heap.size≤k_ → (fun k_=>k_≠gb361) k_ from fun k_ hk=>Kd.freshB (pk_ BK361.out) k_ hk) _ (Nat.le_refl _)) (Below.refl _ _) (Nat.le_refl _) (by simp) ?_;(case hd=>rfl);(case hg=>rfl);(case hr=>first|(go_simp;done)|(go_simp;rfl));(case hp=>exact (Reps.one (show Kd.FK (Kd.slice 5 (Kd.int .u8)) _ _ t366 [Y Ao23 t366.length co23] from (Kd.FK_slice_mk (Kd.R_reads' (Kd.R_mono (ok':=(fun k_=>k_≠gb361)) (Kd.R_types (HO368.out) BK361.out (by decide)) (fun k_ hk=>hk.2))).2.1 (by (with_reducible repeat (first|apply Kd.F_alloc|apply Kd.F_drewN|apply Kd.F_drew));exact Kd.R_F (Kd.R_mono (ok':=(fun k_=>k_≠gb361)) (Kd.R_types (HO368.out) BK361.out (by decide)) (fun k_ hk=>hk.2))))) (Reps.one (show Kd.FK (Kd.slice 5 (Kd.int .u8)) _ _ t369 [Y Ao24 t369.length co24] from (Kd.FK_slice_mk (Kd.R_reads' (Kd.R_mono (ok':=(fun k_=>k_≠gb361)) (Kd.R_types (HO371.out) BK361.out (by decide)) (fun k_ hk=>hk.2))).2.1 (by (with_reducible repeat (first|apply Kd.F_alloc|apply Kd.F_drewN|apply Kd.F_drew));exact Kd.R_F (Kd.R_mono (ok':=(fun k_=>k_≠gb361)) (Kd.R_types (HO371.out) BK361.out (by decide)) (fun k_ hk=>hk.2))))) (Reps.one (show Kd.FK (Kd.slice 5 (Kd.int .u8)) _ _ t372 [Y Ao25 t372.length co25] from (Kd.FK_slice_mk (Kd.R_reads' (Kd.R_mono (ok':=(fun k_=>k_≠gb361)) (Kd.R_types (HO374.out) BK361.out (by decide)) (fun k_ hk=>hk.2))).2.1 (by (with_reducible repeat (first|apply Kd.F_alloc|apply Kd.F_drewN|apply Kd.F_drew));exact Kd.R_F (Kd.R_mono (ok':=(fun k_=>k_≠gb361)) (Kd.R_types (HO374.out) BK361.out (by decide)) (fun k_ hk=>hk.2))))) (Reps.one (show Kd.FK (Kd.slice 5 (Kd.int .u8)) _ _ t375 [Y Ao26 t375.length co26] from (Kd.FK_slice_mk (Kd.R_reads' (Kd.R_mono (ok':=(fun k_=>k_≠gb361)) (Kd.R_types (HO377.out) BK361.out (by decide)) (fun k_ hk=>hk.2))).2.1 (by (with_reducible repeat (first|apply Kd.F_alloc|apply Kd.F_drewN|apply Kd.F_drew));exact Kd.R_F (Kd.R_mono (ok':=(fun k_=>k_≠gb361)) (Kd.R_types (HO377.out) BK361.out (by decide)) (fun k_ hk=>hk.2))))) (Reps.none _ _))))));intro v379 w27 ho28 hb hg_ hnew_;clear hg_ hnew_;(first|rw [← Ny378.out] at ho28|(simp only [Int.reduceToNat] at ho28;rw [← Ny378.out] at ho28))
   have n_ := an_ (Kd.N_lower ho28 (below_size (pB_ HB.out))) <| an_ (blk_below (pk_ BK361.out) hb) <| D (below_step (pB_ HB.out) hb)
   clear BK361 HB HO368 HO371 HO374 HO377;obtain ⟨HO380,BK361,HB⟩:=n_;clear hb ho28;obtain ⟨Ao29,co29,eo29⟩:=Kd.N_slice HO380.out;(first|subst eo29|obtain ⟨rfl,rfl⟩:=sl_inj eo29);refine hK.out _ _ (be5_ BK361.out) (fun hHeld=>?_);clear hK K;refine nx_ (N:=some 26) ?_;refine oa_ 13 27 15 16383 HT_ (fun K hK=>?_);refine goes_ Try.func65 (by kernel_rfl) rfl #[Y Ao29 y378.length co29] (by rfl) rfl rfl Z6 ?_;with_reducible refine (slices_Concat_byte_byte.calls k _ _ y378 t381 _ ?side1 ?side2 A16.out).mono ?_
   (case side1 => exact pC_ ((Kd.N_reads' HO380.out).2.2)); (case side2 => exact (Kd.N_reads' HO380.out).2.1); rintro e w30 ⟨v382, rfl, ho0, hb⟩; refine ⟨_, rfl, ?_⟩
   have n_ := an_ (Kd.N_elder' (pN_ HO380.out) (Kd.R_base ho0) hb) <| an_ (Kd.R_lower ho0 (below_size (pB_ HB.out))) <| an_ (blk_below (pk_ BK361.out) hb) <| D (below_step (pB_ HB.out) hb)
   clear HO380 BK361 HB;obtain ⟨HO380,HO383,BK361,HB⟩:=n_;refine hK.out _ _ (be5_ BK361.out) (fun hHeld=>?_);clear hK K;refine nx_ (N:=some 27) ?_;refine pb_ 14 ?_;refine done_ (done_of HT_.out (by kernel_rfl)) ?_
   try go_wp2
   go_ret;exact ⟨_,er_,by (with_reducible repeat (first|apply Kd.R_alloc|apply Kd.R_drewN|apply Kd.R_drew));exact HO383.out,pB_ HB.out⟩
 ·replace c7 := Bool.eq_false_iff.mpr c7
  subst c7; rw [if_neg (show ¬ (false = true) by decide)] at H; obtain rfl := Option.some.inj H
  go_wp2
  go_ret;exact ⟨_,er_,by first|exact Kd.R_nil _ _ _ _ _|exact Kd.N_nil _ _ _ _ _|exact Kd.V_nil _ _ _ _ _|exact Kd.Q_nil _ _ _ _ _|exact Kd.S_nil _ _ _ _ _,pB_ HB.out⟩

/-! ### impl_Clip: function 60 -/
def impl_Clip.f (a0 a1 a2 : Int) : Option (Int) := if a0 < a1 then (some a1) else (if a0 > a2 then (some a2) else (some a0))
set_option maxHeartbeats 8000000 in
set_option maxRecDepth 100000 in
theorem impl_Clip.calls (a0 a1 a2 r : Int) (w : World) (h : impl_Clip.f a0 a1 a2 = some r) :
  Calls Try.prog 60 #[I L a0, I L a1, I L a2] w fun e w' => e = .returned (I L r) ∧ Drawn0 w w' := by
 have H : (if a0 < a1 then (some a1) else (if a0 > a2 then (some a2) else (some a0))) = some r := h
 clear h
 by_cases c4 : a0 < a1
 ·rw [if_pos c4] at H
  have c4b0 : decide (a0 < a1) = true := decide_eq_true c4; clear c4; obtain rfl := Option.some.inj H; go_enter Try.func60, Try.ntmps60
  go_wp2
  go_ret; exact ⟨by first | rfl | (simp; done) | (simp [*]; done), by repeat (first | exact Drawn0.refl _ | apply Drawn0.step)⟩
 ·rw [if_neg c4] at H
  have c4b0 : decide (a0 < a1) = false := decide_eq_false c4; clear c4
  by_cases c5 : a0 > a2
  ·rw [if_pos c5] at H
   have c5b0 : decide (a2 < a0) = true := decide_eq_true c5; clear c5; obtain rfl := Option.some.inj H; go_enter Try.func60, Try.ntmps60
   go_wp2
   go_ret; exact ⟨by first | rfl | (simp; done) | (simp [*]; done), by repeat (first | exact Drawn0.refl _ | apply Drawn0.step)⟩
  ·rw [if_neg c5] at H
   have c5b0 : decide (a2 < a0) = false := decide_eq_false c5; clear c5; obtain rfl := Option.some.inj H; go_enter Try.func60, Try.ntmps60
   go_wp2
   go_ret; exact ⟨by first | rfl | (simp; done) | (simp [*]; done), by repeat (first | exact Drawn0.refl _ | apply Drawn0.step)⟩

/-! ### impl_beOf: function 66 -/
def impl_beOf.l0 : Nat → Int → List Int → Int → Int → Option (Int)
 | 0, _, _, _, _ => none
 | k + 1,x3,x6,x7,x8=>if x8 < x7 then (if 0≤x8 then (if x8 < (x6.length:Int) then (impl_beOf.l0 k (Go.bits .or .i64 (wrap64 (x3 * 256)) (wrap64 (rd x6 x8))) x6 x7 (wrap64 (x8 + 1))) else (none)) else (none)) else (some x3)
def impl_beOf.f (k : Nat) (l0 : List Int) : Option (Int) := impl_beOf.l0 k 0 l0 (l0.length : Int) 0
set_option maxHeartbeats 8000000 in
set_option maxRecDepth 100000 in
theorem impl_beOf.calls (k : Nat) (A0 : Option Addr) (c0 : Nat) (l0 : List Int) (r : Int) (w : World) (hr0 : Kd.C (Kd.int .u8) w A0 l0.length l0) (hc0 : l0.length ≤ c0) (h : impl_beOf.f k l0 = some r) :
  Calls Try.prog 66 #[Y A0 l0.length c0] w fun e w' => e = .returned (I L r) ∧ Drawn0 w w' := by
 have HR0 := D hr0
 have HC0 := D hc0
 clear hr0 hc0
 have H : (impl_beOf.l0 k 0 l0 (l0.length : Int) 0) = some r := h
 clear h
 have H' := D H
 clear H
 go_enter Try.func66, Try.ntmps66
 go_wp2
 go_loopg [3,8] k (fun kq v3 v8 w'=>∃ (x3_1:Int) (x8_1:Int),v3=I L x3_1∧v8=I L x8_1∧Aside0 (impl_beOf.l0 kq x3_1 l0 (l0.length:Int) x8_1=some r)∧Aside0 (kq≤k)∧Drawn0 w w')
 case atStart => exact ⟨(0), (0), Z11, Z11, H', ⟨Nat.le_refl _⟩, by repeat (first | exact Drawn0.refl _ | apply Drawn0.step)⟩
 case round =>
  clear H'; obtain ⟨x3_1, x8_1, rfl, rfl, HA, HK1, ⟨m1, rfl⟩⟩ := hrel
  cases gk with
  | zero => exact absurd HA.out (by simp [impl_beOf.l0])
  | succ k1 =>
   have H := HA.out; clear HA; simp only [impl_beOf.l0] at H
   by_cases c2 : x8_1 < (l0.length : Int)
   ·rw [if_pos c2] at H
    have c2b0 : decide (x8_1 < (l0.length : Int)) = true := decide_eq_true c2; clear c2
    by_cases c3 : 0 ≤ x8_1
    ·rw [if_pos c3] at H
     have c3b0 : decide (0 ≤ x8_1) = true := decide_eq_true c3; clear c3
     by_cases c4 : x8_1 < (l0.length : Int)
     ·rw [if_pos c4] at H
      have c4b0:decide (x8_1 < (l0.length:Int))=true:=decide_eq_true c4;clear c4;have H':=D H;clear H;have p384:0≤(x8_1:Int):=od_ Z10;have q384:x8_1 < (l0.length:Int):=od_ Z10;obtain ⟨ad384,e384,hx384_0⟩:=Kd.at_int HR0.out x8_1 p384 q384;cases e384;replace p384:=eq_true p384;replace q384:=eq_true q384
      go_wp2
      go_roundg k1
      case measure => have := HK1.out; omega
      case rel=>exact ⟨(Go.bits .or .i64 (wrap64 (x3_1 * 256)) (wrap64 (rd l0 x8_1))),(wrap64 (x8_1 + 1)),Z11,Z11,H',⟨by have:=HK1.out;omega⟩,by repeat (first|exact Drawn0.refl _|apply Drawn0.step)⟩
     ·rw [if_neg c4] at H
      exact absurd H (by simp)
    ·rw [if_neg c3] at H
     exact absurd H (by simp)
   ·rw [if_neg c2] at H
    have c2b0 : decide (x8_1 < (l0.length : Int)) = false := decide_eq_false c2; clear c2; obtain rfl := Option.some.inj H
    go_wp2
    go_ret; exact ⟨by first | rfl | (simp; done) | (simp [*]; done), by repeat (first | exact Drawn0.refl _ | apply Drawn0.step)⟩

/-! ### impl_AddrOf: function 61 -/
def impl_AddrOf.f (k : Nat) (l0 : List Int) : Option (Int × Int × Int × Int × Int × Bool) := if (l0.length : Int) = 4 then ((impl_beOf.f k l0).bind fun t386 => (some (4, 0, 0, 0, t386, true))) else (if (l0.length : Int) = 16 then (if 4 ≤ (l0.length : Int) then ((impl_beOf.f k (l0.take 4)).bind fun t388 => (if 4 ≤ 8 then (if 8 ≤ (l0.length : Int) then ((impl_beOf.f k ((l0.take 8).drop 4)).bind fun t390 => (if 8 ≤ 12 then (if 12 ≤ (l0.length : Int) then ((impl_beOf.f k ((l0.take 12).drop 8)).bind fun t392 => ((impl_beOf.f k (l0.drop 12)).bind fun t394 => (some (6, t388, t390, t392, t394, true)))) else (none)) else (none))) else (none)) else (none))) else (none)) else (some (0, 0, 0, 0, 0, false)))
def impl_AddrOf.T5 : Bool × List (List Nat × List Nat) := (true, [([], []), ([0], [0]), ([1], [1]), ([], []), ([3], [3]), ([4, 2], [4]), ([], []), ([6], [6]), ([7, 5], [7]), ([], []), ([9], [9]), ([10, 8], [10]), ([2, 5, 8, 11], [2, 5, 8, 11]), ([12, 11, 0, 1, 2, 3, 4, 5, 6, 7, 8, 9, 10, 11, 12], [12]), ([13, 0, 1, 2, 3, 4, 5, 6, 7, 8, 9, 10, 11, 12, 13], [])])
def impl_AddrOf.B5 : List Nat := [0, 1, 3, 0, 8, 31, 0, 64, 255, 0, 512, 2047, 4095, 8191, 16383]
theorem impl_AddrOf.tab5 : rtab .any (opsOf Try.f61 5) = impl_AddrOf.T5 := by kernel_rfl
theorem impl_AddrOf.bits5 : waitsOk impl_AddrOf.T5.2 impl_AddrOf.B5 = true := by kernel_rfl
set_option maxHeartbeats 8000000 in
set_option maxRecDepth 100000 in
theorem impl_AddrOf.calls (k : Nat) (A0 : Option Addr) (c0 : Nat) (l0 : List Int) (r1 r2 r3 r4 r5 : Int) (r6 : Bool) (w : World) (hr0 : Kd.C (Kd.int .u8) w A0 l0.length l0) (hc0 : l0.length ≤ c0) (h : impl_AddrOf.f k l0 = some (r1, r2, r3, r4, r5, r6)) :
  Calls Try.prog 61 #[Y A0 l0.length c0] w fun e w'=>e=.returned (.tuple #[.agg #[I L r1,I L r2,I L r3,I L r4,I L r5],.bool r6])∧Below w.heap.size w w':=by
 have hu35 := Try.underlying35
 have HR0 := D hr0
 have HC0 := D hc0
 clear hr0 hc0
 have HB := D (Below.refl w.heap.size w)
 have H:(if (l0.length:Int)=4 then ((impl_beOf.f k l0).bind fun t386=>(some (4,0,0,0,t386,true))) else (if (l0.length:Int)=16 then (if 4≤(l0.length:Int) then ((impl_beOf.f k (l0.take 4)).bind fun t388=>(if 4≤8 then (if 8≤(l0.length:Int) then ((impl_beOf.f k ((l0.take 8).drop 4)).bind fun t390=>(if 8≤12 then (if 12≤(l0.length:Int) then ((impl_beOf.f k ((l0.take 12).drop 8)).bind fun t392=>((impl_beOf.f k (l0.drop 12)).bind fun t394=>(some (6,t388,t390,t392,t394,true)))) else (none)) else (none))) else (none)) else (none))) else (none)) else (some (0,0,0,0,0,false))))=some (r1,r2,r3,r4,r5,r6):=h
 clear h
 have HU2 := D H
 clear H
 go_enter Try.func61, Try.ntmps61
 go_upto_if 6 with (first|((with_reducible refine gate_dst (N:=2) rfl ?_);refine bx_ (N:=2) (cs:=#[I L 0,I L 0,I L 0,I L 0,I L 0]) (t:=35) ?_;intro gb385 hg w3 hbox hb;have n_:=an_ (below_step (pB_ HB.out) hb)<|an_ (hbox)<|an_ (bg_ hg (pB_ HB.out):w.heap.size≤gb385)<|D (bg_ hg (pB_ HB.out):w.heap.size≤gb385);clear HB;obtain ⟨HB,BK385,GW385,GE385⟩:=n_;clear hb hbox hg))
 have H := HU2.out
 clear HU2
 by_cases c4 : (l0.length : Int) = 4
 ·rw [if_pos c4] at H
  have c4b0:((l0.length:Int) == 4)=true:=beq_iff_eq.mpr c4;have c4b1:((l0.length:Int) != 4)=false:=bne_eq_false_iff_eq.mpr c4;clear c4;refine rw_ c4b0 ?_;obtain ⟨t386,A50,H⟩:=bs_.mp H;(try dsimp only at H);have A5:=D A50;clear A50;simp only [Option.some.injEq,Prod.mk.injEq] at H;obtain ⟨rfl,rfl,rfl,rfl,rfl,rfl⟩:=H
  go_wp2_with (first|((with_reducible refine gate_callee (f:=66) rfl ?_);refine goesL_ (some 9) rfl rfl Try.func66 (by kernel_rfl) rfl #[Y A0 l0.length c0] rfl Z6 ?_;(with_reducible refine (impl_beOf.calls k _ _ l0 t386 _ ?side1 ?side2 A5.out).mono ?_);(case side1=>exact pC_ (Kd.C_below HR0.out HB.out));(case side2=>exact HC0.out);rintro e w' ⟨rfl,⟨nd,rfl⟩⟩;refine ⟨_,rfl,?_⟩;(try (rw [drewN_self w3];generalize hq_:World.drewN w3 _=w3;have n0_:Aside0 (w3.heap[gb385]?=some (.cells #[I L 0,I L 0,I L 0,I L 0,I L 0] 35 (0,0))):=⟨by rw [← hq_];exact (pk_ BK385.out)⟩;have n1_:Aside0 (Below w.heap.size w w3):=⟨by rw [← hq_];exact (pB_ HB.out)⟩;clear BK385 HB hq_;have BK385:=n0_;have HB:=n1_;clear n0_ n1_));have hcz6_0:=cells5 BK385.out))
  refine bodyPost_ret (results_ct rfl _ _ gb385 35 #[I L 4,I L 0,I L 0,I L 0,I L t386] (0,0) _ rfl (by exact pP_ BK385.out) Try.underlying35 rfl (by kernel_rfl)) rfl ?_;exact ⟨er_,pB_ HB.out⟩
 ·rw [if_neg c4] at H
  have c4b0:((l0.length:Int) == 4)=false:=beq_eq_false_iff_ne.mpr c4;have c4b1:((l0.length:Int) != 4)=true:=bne_iff_ne.mpr c4;refine rw_ c4b0 ?_
  by_cases c7 : (l0.length : Int) = 16
  ·rw [if_pos c7] at H
   have c7b0 : ((l0.length : Int) == 16) = true := beq_iff_eq.mpr c7; have c7b1 : ((l0.length : Int) != 16) = false := bne_eq_false_iff_eq.mpr c7; clear c7
   by_cases c8 : 4 ≤ (l0.length : Int)
   ·rw [if_pos c8] at H
    have c8b0:=eq_true c8;have c8b1:decide (4≤(l0.length:Int))=true:=decide_eq_true c8;clear c8;obtain ⟨t388,A90,H⟩:=bs_.mp H;(try dsimp only at H);have A9:=D A90;clear A90
    by_cases c10 : 4 ≤ 8
    ·rw [if_pos c10] at H
     have c10b0 := eq_true c10; have c10b1 : decide (4 ≤ 8) = true := decide_eq_true c10; clear c10
     by_cases c11 : 8 ≤ (l0.length : Int)
     ·rw [if_pos c11] at H
      have c11b0:=eq_true c11;have c11b1:decide (8≤(l0.length:Int))=true:=decide_eq_true c11;clear c11;obtain ⟨t390,A120,H⟩:=bs_.mp H;(try dsimp only at H);have A12:=D A120;clear A120
      by_cases c13 : 8 ≤ 12
      ·rw [if_pos c13] at H
       have c13b0 := eq_true c13; have c13b1 : decide (8 ≤ 12) = true := decide_eq_true c13; clear c13
       by_cases c14 : 12 ≤ (l0.length : Int)
       ·rw [if_pos c14] at H
        have c14b0:=eq_true c14;have c14b1:decide (12≤(l0.length:Int))=true:=decide_eq_true c14;clear c14;obtain ⟨t392,A150,H⟩:=bs_.mp H;(try dsimp only at H);have A15:=D A150;clear A150;have c16b0:=eq_true (od_ Z10:12≤(l0.length:Int));obtain ⟨t394,A170,H⟩:=bs_.mp H;(try dsimp only at H);have A17:=D A170;clear A170;simp only [Option.some.injEq,Prod.mk.injEq] at H;obtain ⟨rfl,rfl,rfl,rfl,rfl,rfl⟩:=H
        try go_wp2
        have n_ := an_ (blk_drew BK385.out) <| D (below_drew1 HB.out)
        clear BK385 HB;obtain ⟨BK385,HB⟩:=n_;obtain ⟨i019,hi019,_,hsz19,_⟩:=info_parts info5;obtain ⟨hcut19,hA19,hC19⟩:=print_take_of (P:=Try.prog) (Value.int .u8) 0 82 5 .i64 Try.underlying82 hi019 hsz19 A0 c0 l0 4 (by omega) (od_ Z10) HC0.out;have HR387:=D (Kd.C_of_reads (h1:=fun _=>rfl) (hA19 _ (Kd.reads_of_C HR0.out)));have HC387:=D hC19;clear hA19 hC19 hi019 hsz19;obtain ⟨i020,hi020,_,hsz20,_⟩:=info_parts info5;obtain ⟨A20,hcut20,hA20,hC20⟩:=print_mid_of (P:=Try.prog) (Value.int .u8) 0 82 5 .i64 .i64 Try.underlying82 hi020 hsz20 A0 c0 l0 4 8 (by omega) (by first|omega|exact od_ Z10) (od_ Z10) HC0.out;have HR389:=D (Kd.C_of_reads (h1:=fun _=>rfl) (hA20 _ (Kd.reads_of_C HR0.out)));have HC389:=D hC20;clear hA20 hC20 hi020 hsz20;obtain ⟨i021,hi021,_,hsz21,_⟩:=info_parts info5;obtain ⟨A21,hcut21,hA21,hC21⟩:=print_mid_of (P:=Try.prog) (Value.int .u8) 0 82 5 .i64 .i64 Try.underlying82 hi021 hsz21 A0 c0 l0 8 12 (by omega) (by first|omega|exact od_ Z10) (od_ Z10) HC0.out;have HR391:=D (Kd.C_of_reads (h1:=fun _=>rfl) (hA21 _ (Kd.reads_of_C HR0.out)));have HC391:=D hC21;clear hA21 hC21 hi021 hsz21;obtain ⟨i022,hi022,_,hsz22,_⟩:=info_parts info5;obtain ⟨A22,hcut22,hA22,hC22⟩:=print_drop_of (P:=Try.prog) (Value.int .u8) 0 82 5 .i64 Try.underlying82 hi022 hsz22 A0 c0 l0 12 (by omega) (od_ Z10) HC0.out;have HR393:=D (Kd.C_of_reads (h1:=fun _=>rfl) (hA22 _ (Kd.reads_of_C HR0.out)));have HC393:=D hC22;clear hA22 hC22 hi022 hsz22;refine start_ (n:=15) (S:=fun w'=>True) (ds:=[]) (bz 15 0) (by kernel_rfl) rfl (by kernel_rfl) trivial (fun hHeld=>?_);refine with_tabW impl_AddrOf.tab5 impl_AddrOf.bits5 (fun HT_ HW_=>?_);generalize w3.drew=w18 at BK385 HB HR387 HR389 HR391 HR393 hHeld ⊢;refine pb_ 0 ?_;refine pb_ 1 ?_;refine pb_ 3 ?_;refine pb_ 4 ?_;refine pb_ 6 ?_;refine pb_ 7 ?_;refine pb_ 9 ?_;refine pb_ 10 ?_;refine oa_ 2 15 15 1759 HT_ (fun K hK=>?_);refine goes_ Try.func66 (by kernel_rfl) rfl #[Y A0 (l0.take 4).length c0] (by rfl) rfl rfl (by (try simp only [List.map_toArray,List.map_cons,List.map_nil]);first|done|(rw [show (l0.take 4).length=4 from (by rw [List.length_take];have h_:(4:Int)≤(l0.length:Int):=od_ Z10;omega)] <;> rfl)|rfl|(simp only [List.length_drop,List.length_take];rfl)) ?_;with_reducible refine (impl_beOf.calls k _ _ (l0.take 4) t388 _ ?side1 ?side2 A9.out).mono ?_
        (case side1=>exact pC_ (Kd.C_below HR387.out HB.out));(case side2=>exact HC387.out);rintro e w' ⟨rfl,⟨nd,rfl⟩⟩;refine ⟨_,rfl,?_⟩;refine hK.out _ _ trivial (fun hHeld=>?_);clear hK K;refine nx_ (N:=some 15) ?_;refine oa_ 5 18 15 1791 HT_ (fun K hK=>?_);refine goes_ Try.func66 (by kernel_rfl) rfl #[Y A20 ((l0.take 8).drop 4).length (c0 - 4)] (by rfl) rfl rfl (by (try simp only [List.map_toArray,List.map_cons,List.map_nil]);first|done|(rw [show ((l0.take 8).drop 4).length=(8 - 4) from (by rw [List.length_drop,List.length_take];have h_:(8:Int)≤(l0.length:Int):=od_ Z10;omega)] <;> rfl)|rfl|(simp only [List.length_drop,List.length_take];rfl)) ?_;with_reducible refine (impl_beOf.calls k _ _ ((l0.take 8).drop 4) t390 _ ?side1 ?side2 A12.out).mono ?_
        (case side1=>exact pC_ (Kd.C_below HR389.out (pB_ HB.out)));(case side2=>exact HC389.out);rintro e w' ⟨rfl,⟨nd,rfl⟩⟩;refine ⟨_,rfl,?_⟩;refine hK.out _ _ trivial (fun hHeld=>?_);clear hK K;refine nx_ (N:=some 18) ?_;refine oa_ 8 21 15 2047 HT_ (fun K hK=>?_);refine goes_ Try.func66 (by kernel_rfl) rfl #[Y A21 ((l0.take 12).drop 8).length (c0 - 8)] (by rfl) rfl rfl (by (try simp only [List.map_toArray,List.map_cons,List.map_nil]);first|done|(rw [show ((l0.take 12).drop 8).length=(12 - 8) from (by rw [List.length_drop,List.length_take];have h_:(12:Int)≤(l0.length:Int):=od_ Z10;omega)] <;> rfl)|rfl|(simp only [List.length_drop,List.length_take];rfl)) ?_;with_reducible refine (impl_beOf.calls k _ _ ((l0.take 12).drop 8) t392 _ ?side1 ?side2 A15.out).mono ?_
        (case side1=>exact pC_ (Kd.C_below HR391.out (pB_ HB.out)));(case side2=>exact HC391.out);rintro e w' ⟨rfl,⟨nd,rfl⟩⟩;refine ⟨_,rfl,?_⟩;refine hK.out _ _ trivial (fun hHeld=>?_);clear hK K;refine nx_ (N:=some 21) ?_;refine oa_ 11 24 15 4095 HT_ (fun K hK=>?_);refine goes_ Try.func66 (by kernel_rfl) rfl #[Y A22 (l0.drop 12).length (c0 - 12)] (by rfl) rfl rfl (by (try simp only [List.map_toArray,List.map_cons,List.map_nil]);first|done|(rw [show (l0.drop 12).length=(l0.length - 12) from List.length_drop] <;> rfl)|rfl|(simp only [List.length_drop,List.length_take];rfl)) ?_;with_reducible refine (impl_beOf.calls k _ _ (l0.drop 12) t394 _ ?side1 ?side2 A17.out).mono ?_
        (case side1=>exact pC_ (Kd.C_below HR393.out (pB_ HB.out)));(case side2=>exact HC393.out);rintro e w' ⟨rfl,⟨nd,rfl⟩⟩;refine ⟨_,rfl,?_⟩;refine hK.out _ _ trivial (fun hHeld=>?_);clear hK K;refine nx_ (N:=some 24) ?_;refine pb_ 12 ?_;refine one_ (i:=13) (N:=none) (bz 15 16383) rfl rfl (one_of HT_.out (by kernel_rfl)) (by decide) (fun K hK=>?_);have hs23:w18.cell? ⟨gb385,0,none⟩=some (I L 0):=bc_ BK385.out 0;have hfs23:=blk_frozen BK385.out 0;have hs24:w18.cell? ⟨gb385,1,none⟩=some (I L 0):=bc_ BK385.out 1;have hfs24:=blk_frozen BK385.out 1;have hs25:w18.cell? ⟨gb385,2,none⟩=some (I L 0):=bc_ BK385.out 2;have hfs25:=blk_frozen BK385.out 2;have hs26:w18.cell? ⟨gb385,3,none⟩=some (I L 0):=bc_ BK385.out 3;have hfs26:=blk_frozen BK385.out 3;have hs27:w18.cell? ⟨gb385,4,none⟩=some (I L 0):=bc_ BK385.out 4;have hfs27:=blk_frozen BK385.out 4;refine skip_ (w1:=?_) (by rfl) rfl ?_ ?_;rotate_left
        ·go_simp
         rfl
        refine hK.out _ _ trivial (fun hHeld=>?_);clear hK K;refine pb_ 14 ?_;refine done_ (done_of HT_.out (by kernel_rfl)) ?_
        try go_wp2
        refine bodyPost_ret (results_ct rfl _ _ gb385 35 #[I L 6,I L t388,I L t390,I L t392,I L t394] (0,0) _ rfl (by exact pP_ BK385.out) Try.underlying35 rfl (by kernel_rfl)) rfl ?_;exact ⟨er_,pB_ HB.out⟩
       ·rw [if_neg c14] at H
        exact absurd H (by simp)
      ·rw [if_neg c13] at H
       exact absurd H (by simp)
     ·rw [if_neg c11] at H
      exact absurd H (by simp)
    ·rw [if_neg c10] at H
     exact absurd H (by simp)
   ·rw [if_neg c8] at H
    exact absurd H (by simp)
  ·rw [if_neg c7] at H
   have c7b0:((l0.length:Int) == 16)=false:=beq_eq_false_iff_ne.mpr c7;have c7b1:((l0.length:Int) != 16)=true:=bne_iff_ne.mpr c7;simp only [Option.some.injEq,Prod.mk.injEq] at H;obtain ⟨rfl,rfl,rfl,rfl,rfl,rfl⟩:=H;have hcz28_0:=cells5 BK385.out
   go_wp2
   refine bodyPost_ret (results_ct rfl _ _ gb385 35 #[I L 0,I L 0,I L 0,I L 0,I L 0] (0,0) _ rfl (by exact pP_ BK385.out) Try.underlying35 rfl (by kernel_rfl)) rfl ?_;exact ⟨er_,pB_ HB.out⟩

end Go.Proofs.Ytjhgkonacdimfab.PFnExactCmdOk
