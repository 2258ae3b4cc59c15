-- by a program of this session's, over the kit's words
import Derived.Test.YtjhgkonacdimfabPZFnExactCmdOk
import Derived.Test.YtjhgkonacdimfabPFnExactCmdOkx0
import Derived.Test.YtjhgkonacdimfabPFnExactCmdOkx20
import Derived.Test.YtjhgkonacdimfabPFnExactCmdOkx21
namespace Go.Proofs.Ytjhgkonacdimfab.PFnExactCmdOk
open Go.RowKit Go.Proofs.YtjhgkonacdimfabW.PrintWords Go.Proofs.YtjhgkonacdimfabW.PrintLast Go.Proofs.YtjhgkonacdimfabW.PrintMore Go.Proofs.YtjhgkonacdimfabV Go.Proofs.Ytjhgkonacdimfab.ZFnExactCmdOk
open Go.Value renaming int → I, slice → Y
open Go.IntKind renaming i64 → L
open Aside0 renaming mk → D
open Option renaming bind_eq_some_iff → bs_
attribute [local go_sem] max2_int min2_int max_two min_two max_three min_three max_four min_four   -- for this text's walks alone
set_option linter.unusedVariables false
set_option linter.unusedSimpArgs false

/-! ### impl_ChainOk_1: function 37 -/
def impl_ChainOk_1.f (k : Nat) (a0_0 a0_1 a0_2 a0_3 a0_4 a0_5 a0_6 a0_7 a0_8 a0_9 a0_10 a0_11 a0_12 a0_13 a0_14 a0_15 a0_16 : Int) : Option (Bool) := (impl_ModuleOk.f k a0_0 a0_1 a0_2 a0_3 a0_4 a0_5 a0_6 a0_7 a0_8 a0_9 a0_10 a0_11 a0_12 a0_13 a0_14 a0_15 a0_16).bind fun t457 => (some (!t457))
set_option maxHeartbeats 8000000 in
set_option maxRecDepth 100000 in
theorem impl_ChainOk_1.calls (k : Nat) (a0_0 a0_1 a0_2 a0_3 a0_4 a0_5 a0_6 a0_7 a0_8 a0_9 a0_10 a0_11 a0_12 a0_13 a0_14 a0_15 a0_16 : Int) (r : Bool) (w : World) (h : impl_ChainOk_1.f k a0_0 a0_1 a0_2 a0_3 a0_4 a0_5 a0_6 a0_7 a0_8 a0_9 a0_10 a0_11 a0_12 a0_13 a0_14 a0_15 a0_16 = some r) :
  Calls Try.prog 37 #[.agg #[I L a0_0,I L a0_1,I L a0_2,I L a0_3,I L a0_4,I L a0_5,I L a0_6,I L a0_7,I L a0_8,I L a0_9,I L a0_10,I L a0_11,I L a0_12,I L a0_13,I L a0_14,I L a0_15,I L a0_16]] w fun e w'=>e=.returned (.bool r)∧Below w.heap.size w w':=by
 have hu65 := Try.underlying65
 have HB := D (Below.refl w.heap.size w)
 have H : ((impl_ModuleOk.f k a0_0 a0_1 a0_2 a0_3 a0_4 a0_5 a0_6 a0_7 a0_8 a0_9 a0_10 a0_11 a0_12 a0_13 a0_14 a0_15 a0_16).bind fun t457 => (some (!t457))) = some r := h
 clear h
 obtain ⟨t457, A20, H⟩ := bs_.mp H
 (try dsimp only at H)
 have A2 := D A20
 clear A20
 obtain rfl := Option.some.inj H
 go_enter Try.func37, Try.ntmps37
 go_wp2_with (first|((with_reducible refine gst_ 27 rfl ?_);refine sa27_ ?_)|((with_reducible refine gld_ 27 rfl ?_);refine la27_ ?_)|((with_reducible refine gst_ 39 rfl ?_);refine sa39_ ?_)|((with_reducible refine gld_ 39 rfl ?_);refine la39_ ?_)|((with_reducible refine gst_ 65 rfl ?_);refine sa65_ ?_)|((with_reducible refine gld_ 65 rfl ?_);refine la65_ ?_)|((with_reducible refine gate_dst (N:=1) rfl ?_);refine bx_ (N:=1) (cs:=#[I L a0_0,I L a0_1,I L a0_2,I L a0_3,I L a0_4,I L a0_5,I L a0_6,I L a0_7,I L a0_8,I L a0_9,I L a0_10,I L a0_11,I L a0_12,I L a0_13,I L a0_14,I L a0_15,I L a0_16]) (t:=65) ?_;intro gb456 hg w3 hbox hb;have n_:=an_ (below_step (pB_ HB.out) hb)<|an_ (hbox)<|an_ (bg_ hg (pB_ HB.out):w.heap.size≤gb456)<|D (bg_ hg (pB_ HB.out):w.heap.size≤gb456);clear HB;obtain ⟨HB,BK456,GW456,GE456⟩:=n_;clear hb hbox hg)|((with_reducible refine gate_callee (f:=38) rfl ?_);refine goesL_ (some 4) rfl rfl Try.func38 (by kernel_rfl) rfl #[.agg #[I L a0_0,I L a0_1,I L a0_2,I L a0_3,I L a0_4,I L a0_5,I L a0_6,I L a0_7,I L a0_8,I L a0_9,I L a0_10,I L a0_11,I L a0_12,I L a0_13,I L a0_14,I L a0_15,I L a0_16]] rfl Z6 ?_;(with_reducible refine (impl_ModuleOk.calls k a0_0 a0_1 a0_2 a0_3 a0_4 a0_5 a0_6 a0_7 a0_8 a0_9 a0_10 a0_11 a0_12 a0_13 a0_14 a0_15 a0_16 t457 _ A2.out).mono ?_);rintro e w5 ⟨rfl,hb⟩;refine ⟨_,rfl,?_⟩;have n_:=an_ (blk_below (pk_ BK456.out) hb)<|D (below_step (pB_ HB.out) hb);clear BK456 HB;obtain ⟨BK456,HB⟩:=n_;(try clear hb)))
 go_ret
 exact ⟨er_, pB_ HB.out⟩

/-! ### impl_ChainOk: function 23 -/
def impl_ChainOk.f (k : Nat) (l0 : List (S65)) : Option (Bool) := if (l0.length : Int) ≤ 8 then ((slices_ContainsFunc_impl_Module_impl_Module.f k l0 (fun z0_ z1_ z2_ z3_ z4_ z5_ z6_ z7_ z8_ z9_ z10_ z11_ z12_ z13_ z14_ z15_ z16_ => impl_ChainOk_1.f k z0_ z1_ z2_ z3_ z4_ z5_ z6_ z7_ z8_ z9_ z10_ z11_ z12_ z13_ z14_ z15_ z16_)).bind fun t458 => (some (!t458))) else (some false)
set_option maxHeartbeats 8000000 in
set_option maxRecDepth 100000 in
theorem impl_ChainOk.calls (k : Nat) (A0 : Option Addr) (c0 : Nat) (l0 : List (S65)) (r : Bool) (w : World) (hr0 : Kd.C k65 w A0 l0.length l0) (hc0 : l0.length ≤ c0) (h : impl_ChainOk.f k l0 = some r) :
  Calls Try.prog 23 #[Y A0 l0.length c0] w fun e w' => e = .returned (.bool r) ∧ Below w.heap.size w w' := by
 have HR0 := D hr0
 have HC0 := D hc0
 clear hr0 hc0
 have HB := D (Below.refl w.heap.size w)
 have H:(if (l0.length:Int)≤8 then ((slices_ContainsFunc_impl_Module_impl_Module.f k l0 (fun z0_ z1_ z2_ z3_ z4_ z5_ z6_ z7_ z8_ z9_ z10_ z11_ z12_ z13_ z14_ z15_ z16_=>impl_ChainOk_1.f k z0_ z1_ z2_ z3_ z4_ z5_ z6_ z7_ z8_ z9_ z10_ z11_ z12_ z13_ z14_ z15_ z16_)).bind fun t458=>(some (!t458))) else (some false))=some r:=h
 clear h
 by_cases c2 : (l0.length : Int) ≤ 8
 ·rw [if_pos c2] at H
  have c2b0:decide ((l0.length:Int)≤8)=true:=decide_eq_true c2;have c2b1:decide (l0.length≤8)=true:=decide_eq_true (by omega);clear c2;obtain ⟨t458,A30,H⟩:=bs_.mp H;(try dsimp only at H);have A3:=D A30;clear A30;obtain rfl:=Option.some.inj H;go_enter Try.func23,Try.ntmps23
  go_wp2_with (first|(go_at_call 36;(with_reducible refine (slices_ContainsFunc_impl_Module_impl_Module.calls k _ _ l0 (fun z0_ z1_ z2_ z3_ z4_ z5_ z6_ z7_ z8_ z9_ z10_ z11_ z12_ z13_ z14_ z15_ z16_=>impl_ChainOk_1.f k z0_ z1_ z2_ z3_ z4_ z5_ z6_ z7_ z8_ z9_ z10_ z11_ z12_ z13_ z14_ z15_ z16_) 37 #[] t458 _ ?side1 ?side2 ?side3 ?side4 A3.out).mono ?_);(case side1=>exact pC_ HR0.out);(case side2=>exact HC0.out);(case side3=>exact ⟨⟨_,Try.func37,by kernel_rfl,rfl⟩⟩);(case side4=>refine ⟨?_⟩;intro a900_0 a900_1 a900_2 a900_3 a900_4 a900_5 a900_6 a900_7 a900_8 a900_9 a900_10 a900_11 a900_12 a900_13 a900_14 a900_15 a900_16 rr0_ W_ hW_ h_;refine calls_of_args (args':=#[.agg #[I L a900_0,I L a900_1,I L a900_2,I L a900_3,I L a900_4,I L a900_5,I L a900_6,I L a900_7,I L a900_8,I L a900_9,I L a900_10,I L a900_11,I L a900_12,I L a900_13,I L a900_14,I L a900_15,I L a900_16]]) (by simp) ?_;refine (impl_ChainOk_1.calls k a900_0 a900_1 a900_2 a900_3 a900_4 a900_5 a900_6 a900_7 a900_8 a900_9 a900_10 a900_11 a900_12 a900_13 a900_14 a900_15 a900_16  rr0_ W_ h_).mono ?_;rintro e w' ⟨rfl,hd_⟩;exact ⟨rfl,hd_⟩);rintro e w4 ⟨rfl,hb⟩;have n0_:=D (below_step (pB_ HB.out) hb);clear HB;have HB:=n0_;clear n0_;(try clear hb)))
  go_ret; exact ⟨er_, pB_ HB.out⟩
 ·rw [if_neg c2] at H
  have c2b0:decide ((l0.length:Int)≤8)=false:=decide_eq_false c2;have c2b1:decide (l0.length≤8)=false:=decide_eq_false (by omega);clear c2;obtain rfl:=Option.some.inj H;go_enter Try.func23,Try.ntmps23
  go_wp2
  go_ret; exact ⟨er_, pB_ HB.out⟩

end Go.Proofs.Ytjhgkonacdimfab.PFnExactCmdOk
