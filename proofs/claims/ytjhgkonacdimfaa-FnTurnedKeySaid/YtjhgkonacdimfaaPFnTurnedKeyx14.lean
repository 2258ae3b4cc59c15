-- by a program of this session's, over the kit's words
import Derived.Test.YtjhgkonacdimfaaPZFnTurnedKey
import Derived.Test.YtjhgkonacdimfaaPFnTurnedKeyx0
import Derived.Test.YtjhgkonacdimfaaPFnTurnedKeyx13
namespace Go.Proofs.Ytjhgkonacdimfaa.PFnTurnedKey
open Go.RowKit Go.Proofs.YtjhgkonacdimfaaW.PrintWords Go.Proofs.YtjhgkonacdimfaaW.PrintLast Go.Proofs.YtjhgkonacdimfaaW.PrintMore Go.Proofs.YtjhgkonacdimfaaV Go.Proofs.Ytjhgkonacdimfaa.ZFnTurnedKey
open Go.Value renaming int → I, slice → Y
open Go.IntKind renaming i64 → L
open Aside0 renaming mk → D
open Option renaming bind_eq_some_iff → bs_
attribute [local go_sem] max2_int min2_int max_two min_two max_three min_three max_four min_four   -- for this text's walks alone
set_option linter.unusedVariables false
set_option linter.unusedSimpArgs false

/-! ### impl_put: function 63 -/
def impl_put.l0 : Nat → Int → Int → List Int → Int → Int → Option (List Int)
 | 0, _, _, _, _, _ => none
 | k + 1,x0,x1,x5,x10,x11=>if x11 < x10 then (if 0≤(wrap64 (8 * (wrap64 ((wrap64 (x1 - 1)) - x11)))) then (if 0≤x11 then (if x11 < (x5.length:Int) then (impl_put.l0 k x0 x1 (x5.set (x11:Int).toNat ((shr .i64 x0 (wrap64 (8 * (wrap64 ((wrap64 (x1 - 1)) - x11))))) % 256)) x10 (wrap64 (x11 + 1))) else (none)) else (none)) else (none)) else (some x5)
def impl_put.f (k : Nat) (a0 a1 : Int) : Option (List Int) := if 0 ≤ a1 then (if (a1 : Int).toNat ≤ 281474976710656 then ((some (List.replicate (a1 : Int).toNat 0 : List Int)).bind fun y719 => (impl_put.l0 k a0 a1 y719 (y719.length : Int) 0)) else (none)) else (none)
set_option maxHeartbeats 8000000 in
set_option maxRecDepth 100000 in
theorem impl_put.calls (k : Nat) (a0 a1 : Int) (r : List Int) (w : World) (h : impl_put.f k a0 a1 = some r) :
  Calls Try.prog 63 #[I L a0, I L a1] w fun e w' => ∃ v0_ : Value, e = .returned (v0_) ∧ Kd.R (Kd.int .u8) 5 w' w.heap.size (fun _ => True) v0_ r ∧ Below w.heap.size w w' := by
 have HB := D (Below.refl w.heap.size w)
 have H:(if 0≤a1 then (if (a1:Int).toNat≤281474976710656 then ((some (List.replicate (a1:Int).toNat 0:List Int)).bind fun y719=>(impl_put.l0 k a0 a1 y719 (y719.length:Int) 0)) else (none)) else (none))=some r:=h
 clear h
 by_cases c3 : 0 ≤ a1
 ·rw [if_pos c3] at H
  have c3b0 := eq_true c3; have c3b1 : decide (0 ≤ a1) = true := decide_eq_true c3; clear c3
  by_cases c4 : (a1 : Int).toNat ≤ 281474976710656
  ·rw [if_pos c4] at H
   have c4b0:=eq_true c4;have c4b1:decide ((a1:Int).toNat≤281474976710656)=true:=decide_eq_true c4;clear c4;obtain ⟨y719,hy719⟩:∃ y_:List Int,y_=(List.replicate (a1:Int).toNat 0):=⟨_,rfl⟩
   replace H:(impl_put.l0 k a0 a1 y719 (y719.length:Int) 0)=some r:=by first|(rw [hy719];with_reducible exact H)|(have H2_:=(Option.bind_some _ _).symm.trans H;rw [hy719];with_reducible exact H2_)|(have H2_:=(Option.bind_some _ _).symm.trans H;with_reducible exact H2_)|with_reducible exact H|(rw [hy719];exact H)|exact H
   have Ny719 := D hy719; clear hy719; have H' := D H; clear H; go_enter Try.func63, Try.ntmps63
   go_wp2_with (first|((with_reducible refine gate_dst (N:=8) rfl ?_);refine Kd.R_make (Kd.int .u8) _ 5 rfl (N:=8) rfl 22 _ _ rfl a1 rfl rfl Try.underlying22 (.int .u8 0) 1 info5 rfl (by decide) (by omega) 0 (ok:=fun _=>True) (okp:=fun _=>True) rfl (fun _ hk=>hk) trivial (od_ Z16) (Nat.le_trans (Nat.mul_le_mul_right _ (od_ Z16:a1.toNat≤281474976710656)) (by omega)) (Below.refl _ _) (Nat.le_refl _) ?_;intro v720 w5 ho6 hb hg_ hnew_;clear hg_ hnew_;(first|rw [← Ny719.out] at ho6|(simp only [Int.reduceToNat] at ho6;rw [← Ny719.out] at ho6));have n_:=an_ (Kd.R_lower ho6 (below_size (pB_ HB.out)))<|D (below_step (pB_ HB.out) hb);clear HB;obtain ⟨HO721,HB⟩:=n_;clear hb ho6;obtain ⟨Ao7,co7,eo7⟩:=Kd.R_slice HO721.out;subst eo7))
   go_loopg [11] k (fun kq v11 w'=>∃ (x5_1:List Int) (x11_1:Int),v11=I L x11_1∧Aside0 (impl_put.l0 kq a0 a1 x5_1 (y719.length:Int) x11_1=some r)∧Aside0 (kq≤k)∧Aside0 (Kd.R (Kd.int .u8) 5 w' w.heap.size (fun _=>True) (Y Ao7 y719.length co7) x5_1)∧Aside0 (Below w.heap.size w w'))
   case atStart => exact ⟨(y719), (0), Z17, H', ⟨Nat.le_refl _⟩, ⟨pR_ HO721.out⟩, ⟨pB_ HB.out⟩⟩
   case round =>
    clear H'
    (try clear p2);(try clear c3);(try clear c3b0);(try clear c3b1);(try clear c4);(try clear c4b0);(try clear c4b1);(try clear c6)
    obtain ⟨x5_1, x11_1, rfl, HA, HK1, HO_5, HB⟩ := hrel; have hl5_1 := (Kd.R_reads' HO_5.out).1; rw [hl5_1] at HO_5; (try simp only [hl5_1])
    cases gk with
    | zero => exact absurd HA.out (by simp [impl_put.l0])
    | succ k1 =>
     have H := HA.out; clear HA; simp only [impl_put.l0] at H
     by_cases c8 : x11_1 < (y719.length : Int)
     ·rw [if_pos c8] at H
      have c8b0:decide (x11_1 < (y719.length:Int))=true:=decide_eq_true c8;clear c8;(try (have c8h:=c8b0;simp only [hl5_1] at c8h));obtain ⟨ji9,hji9⟩:∃ j_:Int,(wrap64 (8 * (wrap64 ((wrap64 (a1 - 1)) - x11_1))))=j_:=⟨_,rfl⟩
      replace H:(if 0≤(ji9) then (if 0≤x11_1 then (if x11_1 < (x5_1.length:Int) then (impl_put.l0 k1 a0 a1 (x5_1.set (x11_1:Int).toNat ((shr .i64 a0 (ji9)) % 256)) (y719.length:Int) (wrap64 (x11_1 + 1))) else (none)) else (none)) else (none))=some r:=by first|(rw [hji9] at H;exact H)|(simp only [hji9] at H ⊢;exact H)
      have hji9w : (IntKind.i64.wrap (8 * (wrap64 ((wrap64 (a1 - 1)) - x11_1)))) = ji9 := (i64_w _).trans hji9
      by_cases c10 : 0 ≤ (ji9)
      ·rw [if_pos c10] at H
       have c10b0 := eq_true c10; have c10b1 : decide (0 ≤ (ji9)) = true := decide_eq_true c10; clear c10; obtain ⟨ji11, hji11⟩ : ∃ j_ : Int, (shr .i64 a0 (ji9)) = j_ := ⟨_, rfl⟩
       replace H:(if 0≤x11_1 then (if x11_1 < (x5_1.length:Int) then (impl_put.l0 k1 a0 a1 (x5_1.set (x11_1:Int).toNat ((ji11) % 256)) (y719.length:Int) (wrap64 (x11_1 + 1))) else (none)) else (none))=some r:=by first|(rw [hji11] at H;exact H)|(simp only [hji11] at H ⊢;exact H)
       have hji11_ : (a0 / 2 ^ min (ji9).toNat 64) = ji11 := hji11; have hji11z : (ji9) ≤ 64 → (a0 / 2 ^ (ji9).toNat) = ji11 := shr_small hji11
       by_cases c12 : 0 ≤ x11_1
       ·rw [if_pos c12] at H
        have c12b0 : decide (0 ≤ x11_1) = true := decide_eq_true c12; clear c12
        by_cases c13 : x11_1 < (x5_1.length : Int)
        ·rw [if_pos c13] at H
         have c13b0:decide (x11_1 < (x5_1.length:Int))=true:=decide_eq_true c13;clear c13;(try (have c13h:=c13b0;simp only [hl5_1] at c13h));obtain ⟨y722,hy722⟩:∃ y_:List Int,y_=(x5_1.set (x11_1:Int).toNat ((ji11) % 256)):=⟨_,rfl⟩
         replace H:(impl_put.l0 k1 a0 a1 y722 (y719.length:Int) (wrap64 (x11_1 + 1)))=some r:=by first|(rw [hy722];with_reducible exact H)|(have H2_:=(Option.bind_some _ _).symm.trans H;rw [hy722];with_reducible exact H2_)|(have H2_:=(Option.bind_some _ _).symm.trans H;with_reducible exact H2_)|with_reducible exact H|(rw [hy722];exact H)|exact H
         have Ny722:=D hy722;clear hy722;have H':=D H;clear H;have p14:0≤(x11_1:Int):=od_ Z16;have q14:(x11_1:Int) < ((x5_1.length:Int):Int):=od_ Z16;obtain ⟨go14,co14,eo14,gb14,gl14,cl14,HG14⟩:=Kd.R_form HO_5.out (by omega);(first|cases eo14|(injection eo14 with ea_ en_ ec_;(first|subst ea_|(injection ea_ with ea_;subst ea_));subst ec_;clear en_));have GB14:=D gb14;have GG14:=D HG14;clear gb14 gl14 HG14;obtain ⟨hx14_0,hf14_0⟩:=Kd.R_celln 0 HO_5.out (x11_1:Int) p14 q14;replace p14:=eq_true p14;replace q14:=eq_true q14;have HP15:=Kd.R_putg HO_5.out (x11_1:Int) ((ji11) % 256)
         go_wp2_with (first|((with_reducible refine gate_store (t:=5) (p:=24) rfl ?_);refine store_event (t:=5) (p:=24) (v:=?vo_w16) (w1:=(wr.setCell ⟨go14,(x11_1:Int).toNat,none⟩ (.int .u8 ((ji11) % 256)))) ?hg ?ho ?hn ?hr ?_;(case ho=>rfl);(case hg=>rfl);(case hn=>rfl);(case hr=>first|(go_simp;done)|(go_simp;rfl));intro w16 hw;have hg:wr.grownBy w16 (some go14):=(by rw [hw];exact HP15.2);have hp_:Kd.R (Kd.int .u8) 5 w16 w.heap.size (fun _=>True) (Y (some ⟨go14,0,none⟩) x5_1.length co7) y722:=(by rw [hw,Ny722.out];exact HP15.1);clear HP15;have n_:=an_ (hp_)<|D (by rw [hw];exact below_set (HB.out) GB14.out:Below w.heap.size w w16);clear HO_5 HB;obtain ⟨HO_5,HB⟩:=n_;clear hg hw hp_))
         (try simp only [← hl5_1]); go_roundg k1
         case measure => have := HK1.out; omega
         case rel=>exact ⟨(y722),(wrap64 (x11_1 + 1)),Z17,H',⟨by have:=HK1.out;omega⟩,⟨by (try simp only [hl5_1]);(with_reducible repeat (first|apply Kd.R_alloc|apply Kd.R_drewN|apply Kd.R_drew));exact HO_5.out⟩,⟨pB_ HB.out⟩⟩
        ·rw [if_neg c13] at H
         exact absurd H (by simp)
       ·rw [if_neg c12] at H
        exact absurd H (by simp)
      ·rw [if_neg c10] at H
       exact absurd H (by simp)
     ·rw [if_neg c8] at H
      have c8b0 : decide (x11_1 < (y719.length : Int)) = false := decide_eq_false c8; clear c8; (try (have c8h := c8b0; simp only [hl5_1] at c8h)); obtain rfl := Option.some.inj H
      go_wp2
      go_ret;exact ⟨_,er_,by (with_reducible repeat (first|apply Kd.R_alloc|apply Kd.R_drewN|apply Kd.R_drew));exact HO_5.out,pB_ HB.out⟩
  ·rw [if_neg c4] at H
   exact absurd H (by simp)
 ·rw [if_neg c3] at H
  exact absurd H (by simp)

/-! ### impl_Put32: function 58 -/
def impl_Put32.f (k : Nat) (a0 : Int) : Option (List Int) := (impl_put.f k a0 4).bind fun t723 => (some t723)
set_option maxHeartbeats 8000000 in
set_option maxRecDepth 100000 in
theorem impl_Put32.calls (k : Nat) (a0 : Int) (r : List Int) (w : World) (h : impl_Put32.f k a0 = some r) :
  Calls Try.prog 58 #[I L a0] w fun e w' => ∃ v0_ : Value, e = .returned (v0_) ∧ Kd.R (Kd.int .u8) 5 w' w.heap.size (fun _ => True) v0_ r ∧ Below w.heap.size w w' := by
 have HB := D (Below.refl w.heap.size w)
 have H : ((impl_put.f k a0 4).bind fun t723 => (some t723)) = some r := h
 clear h
 obtain ⟨t723, A20, H⟩ := bs_.mp H
 (try dsimp only at H)
 have A2 := D A20
 clear A20
 obtain rfl := Option.some.inj H
 go_enter Try.func58, Try.ntmps58
 go_wp2_with (first|((with_reducible refine gate_callee (f:=63) rfl ?_);refine goesL_ (some 4) rfl rfl Try.func63 (by kernel_rfl) rfl #[I L a0,I L 4] rfl Z8 ?_;(with_reducible refine (impl_put.calls k a0 4 t723 _ A2.out).mono ?_);rintro e w3 ⟨v724,rfl,ho0,hb⟩;refine ⟨_,rfl,?_⟩;have n_:=an_ (Kd.R_lower ho0 (below_size (pB_ HB.out)))<|D (below_step (pB_ HB.out) hb);clear HB;obtain ⟨HO725,HB⟩:=n_;(try clear hb);(try clear ho0)))
 go_ret
 exact ⟨_,er_,by (with_reducible repeat (first|apply Kd.R_alloc|apply Kd.R_drewN|apply Kd.R_drew));exact HO725.out,pB_ HB.out⟩

/-! ### slices_Grow_byte_byte: function 64 -/
def slices_Grow_byte_byte.f  (a1 : Int) : Option (List Int) := if a1 < 0 then (none) else (if (wrap64 (a1)) > 0 then (if 0 ≤ (wrap64 (a1)) then (if ([] : List Int).length + (wrap64 (a1) : Int).toNat < 140737488355328 then ((some (([] : List Int) ++ List.replicate (wrap64 (a1) : Int).toNat 0 : List Int)).bind fun y726 => (if 0 ≤ (y726.length : Int) then (some (y726.take (0 : Int).toNat)) else (none))) else (none)) else (none)) else (some ([] : List Int)))
set_option maxHeartbeats 8000000 in
set_option maxRecDepth 100000 in
theorem slices_Grow_byte_byte.calls  (a1 : Int) (r : List Int) (w : World) (h : slices_Grow_byte_byte.f a1 = some r) :
  Calls Try.prog 64 #[Y none 0 0, I L a1] w fun e w' => ∃ v0_ : Value, e = .returned (v0_) ∧ Kd.R (Kd.int .u8) 5 w' w.heap.size (fun _ => True) v0_ r ∧ Below w.heap.size w w' := by
 have HB := D (Below.refl w.heap.size w)
 have H:(if a1 < 0 then (none) else (if (wrap64 (a1)) > 0 then (if 0≤(wrap64 (a1)) then (if ([]:List Int).length + (wrap64 (a1):Int).toNat < 140737488355328 then ((some (([]:List Int) ++ List.replicate (wrap64 (a1):Int).toNat 0:List Int)).bind fun y726=>(if 0≤(y726.length:Int) then (some (y726.take (0:Int).toNat)) else (none))) else (none)) else (none)) else (some ([]:List Int))))=some r:=h
 clear h
 by_cases c3 : a1 < 0
 ·rw [if_pos c3] at H
  exact absurd H (by simp)
 ·rw [if_neg c3] at H
  have c3b0 : decide (a1 < 0) = false := decide_eq_false c3; clear c3
  by_cases c4 : (wrap64 (a1)) > 0
  ·rw [if_pos c4] at H
   have c4b0 : decide (0 < (wrap64 (a1))) = true := decide_eq_true c4; clear c4; obtain ⟨ji5, hji5⟩ : ∃ j_ : Int, (wrap64 (a1)) = j_ := ⟨_, rfl⟩
   replace H:(if 0≤(ji5) then (if ([]:List Int).length + (ji5:Int).toNat < 140737488355328 then ((some (([]:List Int) ++ List.replicate (ji5:Int).toNat 0:List Int)).bind fun y726=>(if 0≤(y726.length:Int) then (some (y726.take (0:Int).toNat)) else (none))) else (none)) else (none))=some r:=by first|(rw [hji5] at H;exact H)|(simp only [hji5] at H ⊢;exact H)
   (try rw [hji5] at c4b0); have hji5w : (IntKind.i64.wrap (a1)) = ji5 := (i64_w _).trans hji5
   by_cases c6 : 0 ≤ (ji5)
   ·rw [if_pos c6] at H
    have c6b0 := eq_true c6; have c6b1 : decide (0 ≤ (ji5)) = true := decide_eq_true c6; clear c6
    by_cases c7 : ([] : List Int).length + (ji5 : Int).toNat < 140737488355328
    ·rw [if_pos c7] at H
     have LMc7 := D c7; clear c7; obtain ⟨y726, hy726⟩ : ∃ y_ : List Int, y_ = (([] : List Int) ++ List.replicate (ji5 : Int).toNat 0) := ⟨_, rfl⟩
     replace H:(if 0≤(y726.length:Int) then (some (y726.take (0:Int).toNat)) else (none))=some r:=by first|(rw [hy726];with_reducible exact H)|(have H2_:=(Option.bind_some _ _).symm.trans H;rw [hy726];with_reducible exact H2_)|(have H2_:=(Option.bind_some _ _).symm.trans H;with_reducible exact H2_)|with_reducible exact H|(rw [hy726];exact H)|exact H
     have Ny726 := D hy726; clear hy726
     by_cases c8 : 0 ≤ (y726.length : Int)
     ·rw [if_pos c8] at H
      have c8b0 := eq_true c8; have c8b1 : decide (0 ≤ (y726.length : Int)) = true := decide_eq_true c8; clear c8; obtain ⟨y729, hy729⟩ : ∃ y_ : List Int, y_ = (y726.take (0 : Int).toNat) := ⟨_, rfl⟩
      replace H:(some y729)=some r:=by first|(rw [hy729];with_reducible exact H)|(have H2_:=(Option.bind_some _ _).symm.trans H;rw [hy729];with_reducible exact H2_)|(have H2_:=(Option.bind_some _ _).symm.trans H;with_reducible exact H2_)|with_reducible exact H|(rw [hy729];exact H)|exact H
      have Ny729 := D hy729; clear hy729; obtain rfl := Option.some.inj H; go_enter Try.func64, Try.ntmps64
      go_wp2_with (first|(at_builtin;refine Kd.R_append_zeros (Kd.int .u8) (w0:=w) w.heap.size rfl (.tmp 20) (.tmp 21) 22 3 5 (.int .u8 0) 1 rfl Try.underlying22 Try.underlying3 info5 rfl (by decide) (by omega) (Y none 0 0) ([]:List Int) 0 (ji5:Int) (fun _=>True) rfl rfl rfl ?aF ?aO (od_ Z16) ?aB ?aS ?aL ?_;(case aB=>exact (pB_ HB.out));(case aF=>exact (fun _ _=>trivial));(case aO=>exact ((Kd.R_nil _ _ _ _ (fun _=>True))));(case aS=>exact (below_size (pB_ HB.out)));(case aL=>have:=LMc7.out;omega);intro v727 w9 ho hb hg hat;rw [← Ny726.out] at ho;have n0_:=D (hb);have n1_:=D (ho);clear HB;have HB:=n0_;have HO728:=n1_;clear n0_ n1_;clear ho hb hg hat;obtain ⟨Ao10,co10,eo10⟩:=Kd.R_slice HO728.out;subst eo10;have q11:(0:Int)≤((y726.length:Int):Int):=od_ Z16;obtain ⟨i011,hi011,_,hsz11,_⟩:=info_parts info5;have hcut11:=cut_to (P:=Try.prog) 22 5 .i64 Try.underlying22 hi011 Ao10 y726.length co10 0 (by omega) q11 (Kd.R_reads' HO728.out).2.1;have hr11:=Kd.R_take (m:=(0:Int).toNat) HO728.out (by omega);have hy11:y729.length=(0:Int).toNat:=(by rw [Ny729.out,List.length_take];omega);rw [← Ny729.out] at hr11;rw [← hy11] at hr11 hcut11;clear hy11 hi011 hsz11 HO728;have HO731:=D hr11;clear hr11;replace q11:=eq_true q11))
      go_ret;exact ⟨_,by first|rfl|(simp [errW_none,errW_some] <;> rfl)|(simp only [← hji5];first|rfl|(simp [errW_none,errW_some] <;> rfl))|(simp [*,errW_none,errW_some] <;> rfl),by (with_reducible repeat (first|apply Kd.R_alloc|apply Kd.R_drewN|apply Kd.R_drew));exact HO731.out,pB_ HB.out⟩
     ·rw [if_neg c8] at H
      exact absurd H (by simp)
    ·rw [if_neg c7] at H
     exact absurd H (by simp)
   ·rw [if_neg c6] at H
    exact absurd H (by simp)
  ·rw [if_neg c4] at H
   have c4b0 : decide (0 < (wrap64 (a1))) = false := decide_eq_false c4; clear c4; obtain rfl := Option.some.inj H; go_enter Try.func64, Try.ntmps64
   go_wp2
   go_ret;exact ⟨_,er_,by first|exact Kd.R_nil _ _ _ _ _|exact Kd.N_nil _ _ _ _ _|exact Kd.V_nil _ _ _ _ _|exact Kd.Q_nil _ _ _ _ _|exact Kd.S_nil _ _ _ _ _,pB_ HB.out⟩

/-! ### slices_Concat_byte_byte: function 59 -/
mutual
def slices_Concat_byte_byte.l0 : Nat → List (List Int) → Int → List (List Int) → Int → Int → Option (List Int)
 | 0, _, _, _, _, _ => none
 | k + 1,x0,x3,x9,x10,x11=>if x11 < x10 then (if 0≤x11 then (if x11 < (x9.length:Int) then (if (wrap64 (x3 + ((rd_L2 x9 x11).length:Int))) < 0 then (none) else (slices_Concat_byte_byte.l0 k x0 (wrap64 (x3 + ((rd_L2 x9 x11).length:Int))) x9 x10 (wrap64 (x11 + 1)))) else (none)) else (none)) else ((slices_Grow_byte_byte.f x3).bind fun t733=>(slices_Concat_byte_byte.l1 k t733 x0 (x0.length:Int) 0))
def slices_Concat_byte_byte.l1 : Nat → List Int → List (List Int) → Int → Int → Option (List Int)
 | 0, _, _, _, _ => none
 | k + 1,x6,x25,x26,x27=>if x27 < x26 then (if 0≤x27 then (if x27 < (x25.length:Int) then (if x6.length + (rd_L2 x25 x27).length < 140737488355328 then (slices_Concat_byte_byte.l1 k (x6 ++ (rd_L2 x25 x27)) x25 x26 (wrap64 (x27 + 1))) else (none)) else (none)) else (none)) else (some x6)
end
def slices_Concat_byte_byte.f (k : Nat) (l0 : List (List Int)) : Option (List Int) := slices_Concat_byte_byte.l0 k l0 0 l0 (l0.length : Int) 0
set_option maxHeartbeats 8000000 in
set_option maxRecDepth 100000 in
theorem slices_Concat_byte_byte.calls (k : Nat) (A0 : Option Addr) (c0 : Nat) (l0 : List (List Int)) (r : List Int) (w : World) (hr0 : Kd.C (Kd.slice 5 (Kd.int .u8)) w A0 l0.length l0) (hc0 : l0.length ≤ c0) (h : slices_Concat_byte_byte.f k l0 = some r) :
  Calls Try.prog 59 #[Y A0 l0.length c0] w fun e w' => ∃ v0_ : Value, e = .returned (v0_) ∧ Kd.R (Kd.int .u8) 5 w' w.heap.size (fun _ => True) v0_ r ∧ Below w.heap.size w w' := by
 have HR0 := D hr0
 have HC0 := D hc0
 clear hr0 hc0
 have HB := D (Below.refl w.heap.size w)
 have H : (slices_Concat_byte_byte.l0 k l0 0 l0 (l0.length : Int) 0) = some r := h
 clear h
 have H' := D H
 clear H
 go_enter Try.func59, Try.ntmps59
 go_wp2
 go_loopg [3,11] k (fun kq v3 v11 w'=>∃ (x3_1:Int) (x11_1:Int),v3=I L x3_1∧v11=I L x11_1∧Aside0 (slices_Concat_byte_byte.l0 kq l0 x3_1 l0 (l0.length:Int) x11_1=some r)∧Aside0 (kq≤k)∧Aside0 (Below w.heap.size w w'))
 case atStart => exact ⟨(0), (0), Z17, Z17, H', ⟨Nat.le_refl _⟩, ⟨pB_ HB.out⟩⟩
 case round =>
  clear H'; obtain ⟨x3_1, x11_1, rfl, rfl, HA, HK1, HB⟩ := hrel
  cases gk with
  | zero => exact absurd HA.out (by simp [slices_Concat_byte_byte.l0])
  | succ k1 =>
   have H := HA.out; clear HA; simp only [slices_Concat_byte_byte.l0] at H
   by_cases c2 : x11_1 < (l0.length : Int)
   ·rw [if_pos c2] at H
    have c2b0 : decide (x11_1 < (l0.length : Int)) = true := decide_eq_true c2; clear c2
    by_cases c3 : 0 ≤ x11_1
    ·rw [if_pos c3] at H
     have c3b0 : decide (0 ≤ x11_1) = true := decide_eq_true c3; clear c3
     by_cases c4 : x11_1 < (l0.length : Int)
     ·rw [if_pos c4] at H
      have c4b0 : decide (x11_1 < (l0.length : Int)) = true := decide_eq_true c4; clear c4
      by_cases c5 : (wrap64 (x3_1 + ((rd_L2 l0 x11_1).length : Int))) < 0
      ·rw [if_pos c5] at H
       exact absurd H (by simp)
      ·rw [if_neg c5] at H
       have c5b0:decide ((wrap64 (x3_1 + ((rd_L2 l0 x11_1).length:Int))) < 0)=false:=decide_eq_false c5;clear c5;have H':=D H;clear H;have p732:0≤(x11_1:Int):=od_ Z16;have q732:x11_1 < (l0.length:Int):=od_ Z16;obtain ⟨ad732,A732_0,c732_0,e732,hx732_0,hl732_0,hi732_0⟩:=at_L2 HR0.out x11_1 p732 q732;cases e732;replace hx732_0:=rc_ HB.out hx732_0;have HR732_0:=D hi732_0;have HC732_0:=D hl732_0;clear hi732_0 hl732_0;replace p732:=eq_true p732;replace q732:=eq_true q732
       go_wp2
       go_roundg k1
       case measure => have := HK1.out; omega
       case rel => exact ⟨(wrap64 (x3_1 + ((rd_L2 l0 x11_1).length : Int))), (wrap64 (x11_1 + 1)), Z17, Z17, H', ⟨by have := HK1.out; omega⟩, ⟨pB_ HB.out⟩⟩
     ·rw [if_neg c4] at H
      exact absurd H (by simp)
    ·rw [if_neg c3] at H
     exact absurd H (by simp)
   ·rw [if_neg c2] at H
    have c2b0:decide (x11_1 < (l0.length:Int))=false:=decide_eq_false c2;clear c2;obtain ⟨t733,A60,H⟩:=bs_.mp H;(try dsimp only at H);have A6:=D A60;clear A60;have H':=D H;clear H
    go_wp2_with (first|((with_reducible refine gate_callee (f:=64) rfl ?_);refine goesL_ (some 24) rfl rfl Try.func64 (by kernel_rfl) rfl #[Y none 0 0,I L x3_1] rfl Z8 ?_;(with_reducible refine (slices_Grow_byte_byte.calls  x3_1 t733 _ A6.out).mono ?_);rintro e w7 ⟨v734,rfl,ho0,hb⟩;refine ⟨_,rfl,?_⟩;have n_:=an_ (Kd.R_lower ho0 (below_size (pB_ HB.out)))<|D (below_step (pB_ HB.out) hb);clear HB;obtain ⟨HO735,HB⟩:=n_;(try clear hb);(try clear ho0)))
    go_loopg [6,27] k1 (fun kq v6 v27 w'=>∃ (x6_2:List Int) (x27_2:Int),v27=I L x27_2∧Aside0 (slices_Concat_byte_byte.l1 kq x6_2 l0 (l0.length:Int) x27_2=some r)∧Aside0 (kq≤k1)∧Aside0 (Kd.R (Kd.int .u8) 5 w' w.heap.size (fun _=>True) v6 x6_2)∧Aside0 (Below w.heap.size w w'))
    case atStart => exact ⟨(t733), (0), Z17, H', ⟨Nat.le_refl _⟩, ⟨pR_ HO735.out⟩, ⟨pB_ HB.out⟩⟩
    case round =>
     clear H'
     (try clear c2);(try clear c2b0);(try clear p2);(try clear c3);(try clear c3b0);(try clear c4);(try clear c4b0);(try clear c5);(try clear c5b0);(try clear c6);(try clear p6);(try clear c7);(try clear p7);(try clear q7);(try clear hx7);(try clear hx732_0);(try clear p732);(try clear q732)
     obtain ⟨x6_2, x27_2, rfl, HA, HK2, HO_6, HB⟩ := hrel
     cases gk with
     | zero => exact absurd HA.out (by simp [slices_Concat_byte_byte.l1])
     | succ k2 =>
      have H := HA.out; clear HA; simp only [slices_Concat_byte_byte.l1] at H
      by_cases c8 : x27_2 < (l0.length : Int)
      ·rw [if_pos c8] at H
       have c8b0 : decide (x27_2 < (l0.length : Int)) = true := decide_eq_true c8; clear c8
       by_cases c9 : 0 ≤ x27_2
       ·rw [if_pos c9] at H
        have c9b0 : decide (0 ≤ x27_2) = true := decide_eq_true c9; clear c9
        by_cases c10 : x27_2 < (l0.length : Int)
        ·rw [if_pos c10] at H
         have c10b0 : decide (x27_2 < (l0.length : Int)) = true := decide_eq_true c10; clear c10
         by_cases c11 : x6_2.length + (rd_L2 l0 x27_2).length < 140737488355328
         ·rw [if_pos c11] at H
          have LMc11 := D c11; clear c11; obtain ⟨y737, hy737⟩ : ∃ y_ : List Int, y_ = (x6_2 ++ (rd_L2 l0 x27_2)) := ⟨_, rfl⟩
          replace H:(slices_Concat_byte_byte.l1 k2 y737 l0 (l0.length:Int) (wrap64 (x27_2 + 1)))=some r:=by first|(rw [hy737];with_reducible exact H)|(have H2_:=(Option.bind_some _ _).symm.trans H;rw [hy737];with_reducible exact H2_)|(have H2_:=(Option.bind_some _ _).symm.trans H;with_reducible exact H2_)|with_reducible exact H|(rw [hy737];exact H)|exact H
          have Ny737:=D hy737;clear hy737;have H':=D H;clear H;have p736:0≤(x27_2:Int):=od_ Z16;have q736:x27_2 < (l0.length:Int):=od_ Z16;obtain ⟨ad736,A736_0,c736_0,e736,hx736_0,hl736_0,hi736_0⟩:=at_L2 HR0.out x27_2 p736 q736;cases e736;replace hx736_0:=rc_ HB.out hx736_0;have HR736_0:=D hi736_0;have HC736_0:=D hl736_0;clear hi736_0 hl736_0;replace p736:=eq_true p736;replace q736:=eq_true q736
          go_wp2_with (first|((with_reducible refine gate_builtin (b:=.append) (xs:=#[.tmp 31,.tmp 32]) rfl ?_);at_builtin;refine Kd.R_append_rows (Kd.int .u8) (w0:=w) w.heap.size rfl (.tmp 31) (.tmp 32) 22 5 (.int .u8 0) 1 rfl Try.underlying22 info5 rfl (by decide) (by omega) u6 x6_2 (rd_L2 l0 x27_2) _ _ _ (fun _=>True) (fun _=>False) rfl rfl ?aO ?aR (fun _ _ h=>h) (fun _ h=>h.elim) ?aF ?aB ?aS ?aL ?_;(case aR=>exact pC_ (Kd.C_below HR736_0.out HB.out));(case aB=>exact (pB_ HB.out));(case aF=>exact (fun _ _=>trivial));(case aO=>exact (pR_ HO_6.out));(case aS=>exact (below_size (pB_ HB.out)));(case aL=>have:=LMc11.out;omega);intro v738 w12 ho hb hg hat;rw [← Ny737.out] at ho;have n_:=an_ (hb)<|D (ho);clear HB HO_6;obtain ⟨HB,HO739⟩:=n_;clear ho hb hg hat))
          go_roundg k2
          case measure => have := HK1.out; have := HK2.out; omega
          case rel => exact ⟨(y737), (wrap64 (x27_2 + 1)), Z17, H', ⟨by have := HK1.out; have := HK2.out; omega⟩, ⟨pR_ HO739.out⟩, ⟨pB_ HB.out⟩⟩
         ·rw [if_neg c11] at H
          exact absurd H (by simp)
        ·rw [if_neg c10] at H
         exact absurd H (by simp)
       ·rw [if_neg c9] at H
        exact absurd H (by simp)
      ·rw [if_neg c8] at H
       have c8b0 : decide (x27_2 < (l0.length : Int)) = false := decide_eq_false c8; clear c8; obtain rfl := Option.some.inj H
       go_wp2
       go_ret;exact ⟨_,er_,by (with_reducible repeat (first|apply Kd.R_alloc|apply Kd.R_drewN|apply Kd.R_drew));exact HO_6.out,pB_ HB.out⟩

/-! ### impl_AddrBytes: function 53 -/
def impl_AddrBytes.f (k : Nat) (a0_0 a0_1 a0_2 a0_3 a0_4 : Int) : Option (List Int) := (impl_AddrOk.f a0_0 a0_1 a0_2 a0_3 a0_4).bind fun t741 => (if t741 = true then (if a0_0 = 4 then ((impl_Put32.f k a0_4).bind fun t742 => (some t742)) else ((impl_Put32.f k a0_1).bind fun t745 => ((impl_Put32.f k a0_2).bind fun t748 => ((impl_Put32.f k a0_3).bind fun t751 => ((impl_Put32.f k a0_4).bind fun t754 => ((slices_Concat_byte_byte.f k (([t745, t748, t751, t754] : List (List Int)))).bind fun t760 => (some t760))))))) else (some ([] : List Int)))
def impl_AddrBytes.T5 : Bool × List (List Nat × List Nat) := (true, [([], []), ([0], [0]), ([1], [1]), ([], []), ([3], [3]), ([4, 2], [4]), ([], []), ([6], [6]), ([7, 5], [7]), ([], []), ([9], [9]), ([10, 8], [10]), ([2, 5, 8, 11], [2, 5, 8, 11]), ([12, 11], [12]), ([13, 13, 0, 1, 2, 3, 4, 5, 6, 7, 8, 9, 10, 11, 12, 13], [13])])
def impl_AddrBytes.B5 : List Nat := [0, 1, 3, 0, 8, 31, 0, 64, 255, 0, 512, 2047, 4095, 8191, 16383]
theorem impl_AddrBytes.tab5 : rtab .any (opsOf Try.f53 5) = impl_AddrBytes.T5 := by kernel_rfl
theorem impl_AddrBytes.bits5 : waitsOk impl_AddrBytes.T5.2 impl_AddrBytes.B5 = true := by kernel_rfl
set_option maxHeartbeats 8000000 in
set_option maxRecDepth 100000 in
theorem impl_AddrBytes.calls (k : Nat) (a0_0 a0_1 a0_2 a0_3 a0_4 : Int) (r : List Int) (w : World) (h : impl_AddrBytes.f k a0_0 a0_1 a0_2 a0_3 a0_4 = some r) :
  Calls Try.prog 53 #[.agg #[I L a0_0,I L a0_1,I L a0_2,I L a0_3,I L a0_4]] w fun e w'=>∃ v0_:Value,e=.returned (v0_)∧Kd.R (Kd.int .u8) 5 w' w.heap.size (fun _=>True) v0_ r∧Below w.heap.size w w':=by
 have hu25 := Try.underlying25
 have HB := D (Below.refl w.heap.size w)
 have H:((impl_AddrOk.f a0_0 a0_1 a0_2 a0_3 a0_4).bind fun t741=>(if t741=true then (if a0_0=4 then ((impl_Put32.f k a0_4).bind fun t742=>(some t742)) else ((impl_Put32.f k a0_1).bind fun t745=>((impl_Put32.f k a0_2).bind fun t748=>((impl_Put32.f k a0_3).bind fun t751=>((impl_Put32.f k a0_4).bind fun t754=>((slices_Concat_byte_byte.f k (([t745,t748,t751,t754]:List (List Int)))).bind fun t760=>(some t760))))))) else (some ([]:List Int))))=some r:=h
 clear h
 obtain ⟨t741, A20, H⟩ := bs_.mp H
 (try dsimp only at H)
 have A2 := D A20
 clear A20
 have HU3 := D H
 clear H
 go_enter Try.func53, Try.ntmps53
 go_upto_if 3 with (first|((with_reducible refine gate_dst (N:=1) rfl ?_);refine bx_ (N:=1) (cs:=#[I L a0_0,I L a0_1,I L a0_2,I L a0_3,I L a0_4]) (t:=25) ?_;intro gb740 hg w4 hbox hb;have n_:=an_ (below_step (pB_ HB.out) hb)<|an_ (hbox)<|an_ (bg_ hg (pB_ HB.out):w.heap.size≤gb740)<|D (bg_ hg (pB_ HB.out):w.heap.size≤gb740);clear HB;obtain ⟨HB,BK740,GW740,GE740⟩:=n_;clear hb hbox hg;have hcz5_0:=cells5 BK740.out)|((with_reducible refine gate_callee (f:=44) rfl ?_);refine goesL_ (some 5) rfl rfl Try.func44 (by kernel_rfl) rfl #[.agg #[I L a0_0,I L a0_1,I L a0_2,I L a0_3,I L a0_4]] rfl Z8 ?_;(with_reducible refine (impl_AddrOk.calls a0_0 a0_1 a0_2 a0_3 a0_4 t741 _ A2.out).mono ?_);rintro e w6 ⟨rfl,hb⟩;refine ⟨_,rfl,?_⟩;have n_:=an_ (blk_below (pk_ BK740.out) hb)<|D (below_step (pB_ HB.out) hb);clear BK740 HB;obtain ⟨BK740,HB⟩:=n_;(try clear hb)))
 have H := HU3.out
 clear HU3
 by_cases c7 : t741 = true
 ·subst c7
  rw [if_pos rfl] at H
  by_cases c8 : a0_0 = 4
  ·rw [if_pos c8] at H
   have c8b0:(a0_0 == 4)=true:=beq_iff_eq.mpr c8;have c8b1:(a0_0 != 4)=false:=bne_eq_false_iff_eq.mpr c8;clear c8;refine rw_ c8b0 ?_;obtain ⟨t742,A90,H⟩:=bs_.mp H;(try dsimp only at H);have A9:=D A90;clear A90;obtain rfl:=Option.some.inj H;have hcz10_0:=cells5 BK740.out
   go_wp2_with (first|((with_reducible refine gate_callee (f:=58) rfl ?_);refine goesL_ (some 13) rfl rfl Try.func58 (by kernel_rfl) rfl #[I L a0_4] rfl Z8 ?_;(with_reducible refine (impl_Put32.calls k a0_4 t742 _ A9.out).mono ?_);rintro e w11 ⟨v743,rfl,ho0,hb⟩;refine ⟨_,rfl,?_⟩;have n_:=an_ (Kd.R_lower ho0 (below_size (pB_ HB.out)))<|an_ (blk_below (pk_ BK740.out) hb)<|D (below_step (pB_ HB.out) hb);clear BK740 HB;obtain ⟨HO744,BK740,HB⟩:=n_;(try clear hb);(try clear ho0)))
   go_ret;exact ⟨_,er_,by (with_reducible repeat (first|apply Kd.R_alloc|apply Kd.R_drewN|apply Kd.R_drew));exact HO744.out,pB_ HB.out⟩
  ·rw [if_neg c8] at H
   have c8b0:(a0_0 == 4)=false:=beq_eq_false_iff_ne.mpr c8;have c8b1:(a0_0 != 4)=true:=bne_iff_ne.mpr c8;refine rw_ c8b0 ?_;obtain ⟨t745,A120,H⟩:=bs_.mp H;(try dsimp only at H);have A12:=D A120;clear A120;obtain ⟨t748,A130,H⟩:=bs_.mp H;(try dsimp only at H);have A13:=D A130;clear A130;obtain ⟨t751,A140,H⟩:=bs_.mp H;(try dsimp only at H);have A14:=D A140;clear A140;obtain ⟨t754,A150,H⟩:=bs_.mp H;(try dsimp only at H);have A15:=D A150;clear A150;obtain ⟨y757,hy757⟩:∃ y_:List (List Int),y_=(([t745,t748,t751,t754]:List (List Int))):=⟨_,rfl⟩
   replace H:((slices_Concat_byte_byte.f k y757).bind fun t760=>(some t760))=some r:=by first|(rw [hy757];with_reducible exact H)|(have H2_:=(Option.bind_some _ _).symm.trans H;rw [hy757];with_reducible exact H2_)|(have H2_:=(Option.bind_some _ _).symm.trans H;with_reducible exact H2_)|with_reducible exact H|(rw [hy757];exact H)|exact H
   have Ny757:=D hy757;clear hy757;obtain ⟨t760,A160,H⟩:=bs_.mp H;(try dsimp only at H);have A16:=D A160;clear A160;obtain rfl:=Option.some.inj H;have hcz17_0:=cells5 BK740.out
   try go_wp2
   have n_ := an_ (blk_drew BK740.out) <| D (below_drew1 HB.out)
   clear BK740 HB;obtain ⟨BK740,HB⟩:=n_;refine start_ (n:=15) (S:=fun w'=>w'.cell? ⟨gb740,0,none⟩=some (I L a0_0)∧w'.cell? ⟨gb740,1,none⟩=some (I L a0_1)∧w'.cell? ⟨gb740,2,none⟩=some (I L a0_2)∧w'.cell? ⟨gb740,3,none⟩=some (I L a0_3)∧w'.cell? ⟨gb740,4,none⟩=some (I L a0_4)) (ds:=[]) (bz 15 0) (by kernel_rfl) rfl (by kernel_rfl) (be5_ BK740.out) (fun hHeld=>?_);refine with_tabW impl_AddrBytes.tab5 impl_AddrBytes.bits5 (fun HT_ HW_=>?_);generalize w6.drew=w18 at BK740 HB hHeld ⊢;refine pb_ 0 ?_;refine pb_ 3 ?_;refine pb_ 6 ?_;refine pb_ 9 ?_;refine tb_ 1 rfl rfl hHeld Z15 ?_;refine tb_ 4 rfl rfl hHeld Z15 ?_;refine tb_ 7 rfl rfl hHeld Z15 ?_;refine tb_ 10 rfl rfl hHeld Z15 ?_;refine oa_ 2 16 15 1759 HT_ (fun K hK=>?_);refine goes_ Try.func58 (by kernel_rfl) rfl #[I L a0_1] (by rfl) rfl rfl Z8 ?_;with_reducible refine (impl_Put32.calls k a0_1 t745 _ A12.out).mono ?_
   rintro e w19 ⟨v746, rfl, ho0, hb⟩; refine ⟨_, rfl, ?_⟩
   have n_ := an_ (Kd.R_lower ho0 (below_size (pB_ HB.out))) <| an_ (blk_below (pk_ BK740.out) hb) <| D (below_step (pB_ HB.out) hb)
   clear BK740 HB;obtain ⟨HO747,BK740,HB⟩:=n_;refine hK.out _ _ (be5_ BK740.out) (fun hHeld=>?_);clear hK K;refine nx_ (N:=some 16) ?_;refine oa_ 5 19 15 1791 HT_ (fun K hK=>?_);refine goes_ Try.func58 (by kernel_rfl) rfl #[I L a0_2] (by rfl) rfl rfl Z8 ?_;with_reducible refine (impl_Put32.calls k a0_2 t748 _ A13.out).mono ?_
   rintro e w20 ⟨v749, rfl, ho0, hb⟩; refine ⟨_, rfl, ?_⟩
   have n_:=an_ (Kd.R_elder' (pR_ HO747.out) (Kd.R_base ho0) hb)<|an_ (Kd.R_lower (nw_ ho0 (pR_ HO747.out)) (below_size (pB_ HB.out)))<|an_ (blk_below (pk_ BK740.out) hb)<|D (below_step (pB_ HB.out) hb)
   clear HO747 BK740 HB;obtain ⟨HO747,HO750,BK740,HB⟩:=n_;refine hK.out _ _ (be5_ BK740.out) (fun hHeld=>?_);clear hK K;refine nx_ (N:=some 19) ?_;refine oa_ 8 22 15 2047 HT_ (fun K hK=>?_);refine goes_ Try.func58 (by kernel_rfl) rfl #[I L a0_3] (by rfl) rfl rfl Z8 ?_;with_reducible refine (impl_Put32.calls k a0_3 t751 _ A14.out).mono ?_
   rintro e w21 ⟨v752, rfl, ho0, hb⟩; refine ⟨_, rfl, ?_⟩
   have n_:=an_ (Kd.R_elder' (pR_ HO747.out) (Kd.R_base ho0) hb)<|an_ (Kd.R_elder' (pR_ HO750.out) (Kd.R_base ho0) hb)<|an_ (Kd.R_lower (nw_ (nw_ ho0 (pR_ HO747.out)) (pR_ HO750.out)) (below_size (pB_ HB.out)))<|an_ (blk_below (pk_ BK740.out) hb)<|D (below_step (pB_ HB.out) hb)
   clear HO747 HO750 BK740 HB;obtain ⟨HO747,HO750,HO753,BK740,HB⟩:=n_;refine hK.out _ _ (be5_ BK740.out) (fun hHeld=>?_);clear hK K;refine nx_ (N:=some 22) ?_;refine oa_ 11 25 15 4095 HT_ (fun K hK=>?_);refine goes_ Try.func58 (by kernel_rfl) rfl #[I L a0_4] (by rfl) rfl rfl Z8 ?_;with_reducible refine (impl_Put32.calls k a0_4 t754 _ A15.out).mono ?_
   rintro e w22 ⟨v755, rfl, ho0, hb⟩; refine ⟨_, rfl, ?_⟩
   have n_:=an_ (Kd.R_elder' (pR_ HO747.out) (Kd.R_base ho0) hb)<|an_ (Kd.R_elder' (pR_ HO750.out) (Kd.R_base ho0) hb)<|an_ (Kd.R_elder' (pR_ HO753.out) (Kd.R_base ho0) hb)<|an_ (Kd.R_lower (nw_ (nw_ (nw_ ho0 (pR_ HO747.out)) (pR_ HO750.out)) (pR_ HO753.out)) (below_size (pB_ HB.out)))<|an_ (blk_below (pk_ BK740.out) hb)<|D (below_step (pB_ HB.out) hb)
   clear HO747 HO750 HO753 BK740 HB;obtain ⟨HO747,HO750,HO753,HO756,BK740,HB⟩:=n_;obtain ⟨Ao23,co23,eo23⟩:=Kd.R_slice HO747.out;(first|subst eo23|obtain ⟨rfl,rfl⟩:=sl_inj eo23);obtain ⟨Ao24,co24,eo24⟩:=Kd.R_slice HO750.out;(first|subst eo24|obtain ⟨rfl,rfl⟩:=sl_inj eo24);obtain ⟨Ao25,co25,eo25⟩:=Kd.R_slice HO753.out;(first|subst eo25|obtain ⟨rfl,rfl⟩:=sl_inj eo25);obtain ⟨Ao26,co26,eo26⟩:=Kd.R_slice HO756.out;(first|subst eo26|obtain ⟨rfl,rfl⟩:=sl_inj eo26);refine hK.out _ _ (be5_ BK740.out) (fun hHeld=>?_);clear hK K;refine nx_ (N:=some 25) ?_;refine oa_ 12 26 15 8191 HT_ (fun K hK=>?_);refine Kd.N_lit_step (Kd.slice 5 (Kd.int .u8)) _ 22 ?hg (N':=26) ?hd (xs:=([t745,t748,t751,t754]:List (List Int))) (inner:=[Y Ao23 t745.length co23,Y Ao24 t748.length co24,Y Ao25 t751.length co25,Y Ao26 t754.length co26]) (ok:=(fun k_=>k_≠gb740)) (okp:=(fun k_=>k_≠gb740)) ?hr ?hp (fun _ hk=>hk) ((show ∀ k_,w22.heap.size≤k_ → (fun k_=>k_≠gb740) k_ from fun k_ hk=>Kd.freshB (pk_ BK740.out) k_ hk) _ (Nat.le_refl _)) (Below.refl _ _) (Nat.le_refl _) (by simp) ?_;(case hd=>rfl);(case hg=>rfl);(case hr=>first|(go_simp;done)|(go_simp;rfl));(case hp=>exact (Reps.one (show Kd.FK (Kd.slice 5 (Kd.int .u8)) _ _ t745 [Y Ao23 t745.length co23] from (Kd.FK_slice_mk (Kd.R_reads' (Kd.R_mono (ok':=(fun k_=>k_≠gb740)) (Kd.R_types (HO747.out) BK740.out (by decide)) (fun k_ hk=>hk.2))).2.1 (by (with_reducible repeat (first|apply Kd.F_alloc|apply Kd.F_drewN|apply Kd.F_drew));exact Kd.R_F (Kd.R_mono (ok':=(fun k_=>k_≠gb740)) (Kd.R_types (HO747.out) BK740.out (by decide)) (fun k_ hk=>hk.2))))) (Reps.one (show Kd.FK (Kd.slice 5 (Kd.int .u8)) _ _ t748 [Y Ao24 t748.length co24] from (Kd.FK_slice_mk (Kd.R_reads' (Kd.R_mono (ok':=(fun k_=>k_≠gb740)) (Kd.R_types (HO750.out) BK740.out (by decide)) (fun k_ hk=>hk.2))).2.1 (by (with_reducible repeat (first|apply Kd.F_alloc|apply Kd.F_drewN|apply Kd.F_drew));exact Kd.R_F (Kd.R_mono (ok':=(fun k_=>k_≠gb740)) (Kd.R_types (HO750.out) BK740.out (by decide)) (fun k_ hk=>hk.2))))) (Reps.one (show Kd.FK (Kd.slice 5 (Kd.int .u8)) _ _ t751 [Y Ao25 t751.length co25] from (Kd.FK_slice_mk (Kd.R_reads' (Kd.R_mono (ok':=(fun k_=>k_≠gb740)) (Kd.R_types (HO753.out) BK740.out (by decide)) (fun k_ hk=>hk.2))).2.1 (by (with_reducible repeat (first|apply Kd.F_alloc|apply Kd.F_drewN|apply Kd.F_drew));exact Kd.R_F (Kd.R_mono (ok':=(fun k_=>k_≠gb740)) (Kd.R_types (HO753.out) BK740.out (by decide)) (fun k_ hk=>hk.2))))) (Reps.one (show Kd.FK (Kd.slice 5 (Kd.int .u8)) _ _ t754 [Y Ao26 t754.length co26] from (Kd.FK_slice_mk (Kd.R_reads' (Kd.R_mono (ok':=(fun k_=>k_≠gb740)) (Kd.R_types (HO756.out) BK740.out (by decide)) (fun k_ hk=>hk.2))).2.1 (by (with_reducible repeat (first|apply Kd.F_alloc|apply Kd.F_drewN|apply Kd.F_drew));exact Kd.R_F (Kd.R_mono (ok':=(fun k_=>k_≠gb740)) (Kd.R_types (HO756.out) BK740.out (by decide)) (fun k_ hk=>hk.2))))) (Reps.none _ _))))));intro v758 w27 ho28 hb hg_ hnew_;clear hg_ hnew_;(first|rw [← Ny757.out] at ho28|(simp only [Int.reduceToNat] at ho28;rw [← Ny757.out] at ho28))
   have n_ := an_ (Kd.N_lower ho28 (below_size (pB_ HB.out))) <| an_ (blk_below (pk_ BK740.out) hb) <| D (below_step (pB_ HB.out) hb)
   clear BK740 HB HO747 HO750 HO753 HO756;obtain ⟨HO759,BK740,HB⟩:=n_;clear hb ho28;obtain ⟨Ao29,co29,eo29⟩:=Kd.N_slice HO759.out;(first|subst eo29|obtain ⟨rfl,rfl⟩:=sl_inj eo29);refine hK.out _ _ (be5_ BK740.out) (fun hHeld=>?_);clear hK K;refine nx_ (N:=some 26) ?_;refine oa_ 13 27 15 16383 HT_ (fun K hK=>?_);refine goes_ Try.func59 (by kernel_rfl) rfl #[Y Ao29 y757.length co29] (by rfl) rfl rfl Z8 ?_;with_reducible refine (slices_Concat_byte_byte.calls k _ _ y757 t760 _ ?side1 ?side2 A16.out).mono ?_
   (case side1 => exact pC_ ((Kd.N_reads' HO759.out).2.2)); (case side2 => exact (Kd.N_reads' HO759.out).2.1); rintro e w30 ⟨v761, rfl, ho0, hb⟩; refine ⟨_, rfl, ?_⟩
   have n_ := an_ (Kd.N_elder' (pN_ HO759.out) (Kd.R_base ho0) hb) <| an_ (Kd.R_lower ho0 (below_size (pB_ HB.out))) <| an_ (blk_below (pk_ BK740.out) hb) <| D (below_step (pB_ HB.out) hb)
   clear HO759 BK740 HB;obtain ⟨HO759,HO762,BK740,HB⟩:=n_;refine hK.out _ _ (be5_ BK740.out) (fun hHeld=>?_);clear hK K;refine nx_ (N:=some 27) ?_;refine pb_ 14 ?_;refine done_ (done_of HT_.out (by kernel_rfl)) ?_
   try go_wp2
   go_ret;exact ⟨_,er_,by (with_reducible repeat (first|apply Kd.R_alloc|apply Kd.R_drewN|apply Kd.R_drew));exact HO762.out,pB_ HB.out⟩
 ·replace c7 := Bool.eq_false_iff.mpr c7
  subst c7; rw [if_neg (show ¬ (false = true) by decide)] at H; obtain rfl := Option.some.inj H
  go_wp2
  go_ret;exact ⟨_,er_,by first|exact Kd.R_nil _ _ _ _ _|exact Kd.N_nil _ _ _ _ _|exact Kd.V_nil _ _ _ _ _|exact Kd.Q_nil _ _ _ _ _|exact Kd.S_nil _ _ _ _ _,pB_ HB.out⟩

/-! ### impl_Clip: function 54 -/
def impl_Clip.f (a0 a1 a2 : Int) : Option (Int) := if a0 < a1 then (some a1) else (if a0 > a2 then (some a2) else (some a0))
set_option maxHeartbeats 8000000 in
set_option maxRecDepth 100000 in
theorem impl_Clip.calls (a0 a1 a2 r : Int) (w : World) (h : impl_Clip.f a0 a1 a2 = some r) :
  Calls Try.prog 54 #[I L a0, I L a1, I L a2] w fun e w' => e = .returned (I L r) ∧ Drawn0 w w' := by
 have H : (if a0 < a1 then (some a1) else (if a0 > a2 then (some a2) else (some a0))) = some r := h
 clear h
 by_cases c4 : a0 < a1
 ·rw [if_pos c4] at H
  have c4b0 : decide (a0 < a1) = true := decide_eq_true c4; clear c4; obtain rfl := Option.some.inj H; go_enter Try.func54, Try.ntmps54
  go_wp2
  go_ret; exact ⟨by first | rfl | (simp; done) | (simp [*]; done), by repeat (first | exact Drawn0.refl _ | apply Drawn0.step)⟩
 ·rw [if_neg c4] at H
  have c4b0 : decide (a0 < a1) = false := decide_eq_false c4; clear c4
  by_cases c5 : a0 > a2
  ·rw [if_pos c5] at H
   have c5b0 : decide (a2 < a0) = true := decide_eq_true c5; clear c5; obtain rfl := Option.some.inj H; go_enter Try.func54, Try.ntmps54
   go_wp2
   go_ret; exact ⟨by first | rfl | (simp; done) | (simp [*]; done), by repeat (first | exact Drawn0.refl _ | apply Drawn0.step)⟩
  ·rw [if_neg c5] at H
   have c5b0 : decide (a2 < a0) = false := decide_eq_false c5; clear c5; obtain rfl := Option.some.inj H; go_enter Try.func54, Try.ntmps54
   go_wp2
   go_ret; exact ⟨by first | rfl | (simp; done) | (simp [*]; done), by repeat (first | exact Drawn0.refl _ | apply Drawn0.step)⟩

/-! ### impl_beOf: function 60 -/
def impl_beOf.l0 : Nat → Int → List Int → Int → Int → Option (Int)
 | 0, _, _, _, _ => none
 | k + 1,x3,x6,x7,x8=>if x8 < x7 then (if 0≤x8 then (if x8 < (x6.length:Int) then (impl_beOf.l0 k (Go.bits .or .i64 (wrap64 (x3 * 256)) (wrap64 (rd x6 x8))) x6 x7 (wrap64 (x8 + 1))) else (none)) else (none)) else (some x3)
def impl_beOf.f (k : Nat) (l0 : List Int) : Option (Int) := impl_beOf.l0 k 0 l0 (l0.length : Int) 0
set_option maxHeartbeats 8000000 in
set_option maxRecDepth 100000 in
theorem impl_beOf.calls (k : Nat) (A0 : Option Addr) (c0 : Nat) (l0 : List Int) (r : Int) (w : World) (hr0 : Kd.C (Kd.int .u8) w A0 l0.length l0) (hc0 : l0.length ≤ c0) (h : impl_beOf.f k l0 = some r) :
  Calls Try.prog 60 #[Y A0 l0.length c0] w fun e w' => e = .returned (I L r) ∧ Drawn0 w w' := by
 have HR0 := D hr0
 have HC0 := D hc0
 clear hr0 hc0
 have H : (impl_beOf.l0 k 0 l0 (l0.length : Int) 0) = some r := h
 clear h
 have H' := D H
 clear H
 go_enter Try.func60, Try.ntmps60
 go_wp2
 go_loopg [3,8] k (fun kq v3 v8 w'=>∃ (x3_1:Int) (x8_1:Int),v3=I L x3_1∧v8=I L x8_1∧Aside0 (impl_beOf.l0 kq x3_1 l0 (l0.length:Int) x8_1=some r)∧Aside0 (kq≤k)∧Drawn0 w w')
 case atStart => exact ⟨(0), (0), Z17, Z17, H', ⟨Nat.le_refl _⟩, by repeat (first | exact Drawn0.refl _ | apply Drawn0.step)⟩
 case round =>
  clear H'; obtain ⟨x3_1, x8_1, rfl, rfl, HA, HK1, ⟨m1, rfl⟩⟩ := hrel
  cases gk with
  | zero => exact absurd HA.out (by simp [impl_beOf.l0])
  | succ k1 =>
   have H := HA.out; clear HA; simp only [impl_beOf.l0] at H
   by_cases c2 : x8_1 < (l0.length : Int)
   ·rw [if_pos c2] at H
    have c2b0 : decide (x8_1 < (l0.length : Int)) = true := decide_eq_true c2; clear c2
    by_cases c3 : 0 ≤ x8_1
    ·rw [if_pos c3] at H
     have c3b0 : decide (0 ≤ x8_1) = true := decide_eq_true c3; clear c3
     by_cases c4 : x8_1 < (l0.length : Int)
     ·rw [if_pos c4] at H
      have c4b0:decide (x8_1 < (l0.length:Int))=true:=decide_eq_true c4;clear c4;have H':=D H;clear H;have p763:0≤(x8_1:Int):=od_ Z16;have q763:x8_1 < (l0.length:Int):=od_ Z16;obtain ⟨ad763,e763,hx763_0⟩:=Kd.at_int HR0.out x8_1 p763 q763;cases e763;replace p763:=eq_true p763;replace q763:=eq_true q763
      go_wp2
      go_roundg k1
      case measure => have := HK1.out; omega
      case rel=>exact ⟨(Go.bits .or .i64 (wrap64 (x3_1 * 256)) (wrap64 (rd l0 x8_1))),(wrap64 (x8_1 + 1)),Z17,Z17,H',⟨by have:=HK1.out;omega⟩,by repeat (first|exact Drawn0.refl _|apply Drawn0.step)⟩
     ·rw [if_neg c4] at H
      exact absurd H (by simp)
    ·rw [if_neg c3] at H
     exact absurd H (by simp)
   ·rw [if_neg c2] at H
    have c2b0 : decide (x8_1 < (l0.length : Int)) = false := decide_eq_false c2; clear c2; obtain rfl := Option.some.inj H
    go_wp2
    go_ret; exact ⟨by first | rfl | (simp; done) | (simp [*]; done), by repeat (first | exact Drawn0.refl _ | apply Drawn0.step)⟩

end Go.Proofs.Ytjhgkonacdimfaa.PFnTurnedKey
