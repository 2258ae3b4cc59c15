-- by a program of this session's, over the kit's words
import Derived.Test.YtcindcakncngnaaPZFnHeapSorts
import Derived.Test.YtcindcakncngnaaPFnHeapSortsx0
import Derived.Test.YtcindcakncngnaaPSFnHeapSorts
import Derived.Test.YtcindcakncngnaaPFnHeapSortsx3
import Derived.Test.YtcindcakncngnaaPFnHeapSortsx7
namespace Go.Proofs.Ytcindcakncngnaa.PFnHeapSorts
open Go.RowKit Go.Proofs.YtcindcakncngnaaW.PrintWords Go.Proofs.YtcindcakncngnaaW.PrintLast Go.Proofs.YtcindcakncngnaaW.PrintMore Go.Proofs.YtcindcakncngnaaV Go.Proofs.Ytcindcakncngnaa.ZFnHeapSorts
open Go.Value renaming int → I, slice → Y
open Go.IntKind renaming i64 → L
open Aside0 renaming mk → D
open Option renaming bind_eq_some_iff → bs_
attribute [local go_sem] max2_int min2_int max_two min_two max_three min_three max_four min_four   -- for this text's walks alone
set_option linter.unusedVariables false
set_option linter.unusedSimpArgs false

/-! ### impl_HeapOrder_1: function 19 -/
def impl_HeapOrder_1.f (a0_0 a0_1 a1_0 a1_1 : Int) : Option (Int) := (impl_Ahead.f a0_0 a0_1 a1_0 a1_1).bind fun t293 => (if t293 = true then (some (-1)) else ((impl_Ahead.f a1_0 a1_1 a0_0 a0_1).bind fun t294 => (if t294 = true then (some 1) else (some 0))))
set_option maxHeartbeats 8000000 in
set_option maxRecDepth 100000 in
theorem impl_HeapOrder_1.calls (a0_0 a0_1 a1_0 a1_1 r : Int) (w : World) (h : impl_HeapOrder_1.f a0_0 a0_1 a1_0 a1_1 = some r) :
  Calls Try.prog 19 #[.agg #[I L a0_0, I L a0_1], .agg #[I L a1_0, I L a1_1]] w fun e w' => e = .returned (I L r) ∧ Below w.heap.size w w' := by
 have hu32 := Try.underlying32
 have HB := D (Below.refl w.heap.size w)
 have H:((impl_Ahead.f a0_0 a0_1 a1_0 a1_1).bind fun t293=>(if t293=true then (some (-1)) else ((impl_Ahead.f a1_0 a1_1 a0_0 a0_1).bind fun t294=>(if t294=true then (some 1) else (some 0)))))=some r:=h
 clear h
 obtain ⟨t293, A30, H⟩ := bs_.mp H
 (try dsimp only at H)
 have A3 := D A30
 clear A30
 have HU4 := D H
 clear H
 go_enter Try.func19, Try.ntmps19
 go_upto_if 5 with (first|((with_reducible refine gate_dst (N:=2) rfl ?_);refine bx_ (N:=2) (cs:=#[I L a0_0,I L a0_1]) (t:=32) ?_;intro gb291 hg w5 hbox hb;have n_:=an_ (below_step (pB_ HB.out) hb)<|an_ (hbox)<|an_ (bg_ hg (pB_ HB.out):w.heap.size≤gb291)<|D (bg_ hg (pB_ HB.out):w.heap.size≤gb291);clear HB;obtain ⟨HB,BK291,GW291,GE291⟩:=n_;clear hb hbox hg)|((with_reducible refine gate_dst (N:=3) rfl ?_);refine bx_ (N:=3) (cs:=#[I L a1_0,I L a1_1]) (t:=32) ?_;intro gb292 hg w6 hbox hb;have n_:=an_ (blk_below (pk_ BK291.out) hb)<|an_ (below_step (pB_ HB.out) hb)<|an_ (hbox)<|an_ (bg_ hg (pB_ HB.out):w.heap.size≤gb292)<|an_ (bg_ hg (pB_ HB.out):w.heap.size≤gb292)<|an_ (nl_ hg (pk_ BK291.out):gb291≠gb292)<|D (by rw [hg];exact Nat.ne_of_gt (blk_lt (pk_ BK291.out)):gb292≠gb291);clear BK291 HB;obtain ⟨BK291,HB,BK292,GW292,GE292,NB291_292,NB292_291⟩:=n_;clear hb hbox hg;(try have:=NB291_292.out);(try have:=NB292_291.out);have hcz8_0:=cells2 BK291.out;have hcz9_0:=cells2 BK292.out)|((with_reducible refine gate_callee (f:=20) rfl ?_);refine goesL_ (some 8) rfl rfl Try.func20 (by kernel_rfl) rfl #[.agg #[I L a0_0,I L a0_1],.agg #[I L a1_0,I L a1_1]] rfl Z9 ?_;(with_reducible refine (impl_Ahead.calls a0_0 a0_1 a1_0 a1_1 t293 _ A3.out).mono ?_);rintro e w10 ⟨rfl,hb⟩;refine ⟨_,rfl,?_⟩;have n_:=an_ (blk_below (pk_ BK291.out) hb)<|an_ (blk_below (pk_ BK292.out) hb)<|D (below_step (pB_ HB.out) hb);clear BK291 BK292 HB;obtain ⟨BK291,BK292,HB⟩:=n_;(try clear hb)))
 have H := HU4.out
 clear HU4
 by_cases c11 : t293 = true
 ·subst c11
  rw [if_pos rfl] at H; obtain rfl := Option.some.inj H
  go_wp2
  go_ret; exact ⟨er_, pB_ HB.out⟩
 ·replace c11 := Bool.eq_false_iff.mpr c11
  subst c11;rw [if_neg (show ¬ (false=true) by decide)] at H;obtain ⟨t294,A120,H⟩:=bs_.mp H;(try dsimp only at H);have A12:=D A120;clear A120;have HU13:=D H;clear H;(try have:=NB292_291.out);(try have:=NB291_292.out);have hcz15_0:=cells2 BK292.out;have hcz16_0:=cells2 BK291.out
  go_upto_if 9 with (first|((with_reducible refine gate_callee (f:=20) rfl ?_);refine goesL_ (some 12) rfl rfl Try.func20 (by kernel_rfl) rfl #[.agg #[I L a1_0,I L a1_1],.agg #[I L a0_0,I L a0_1]] rfl Z9 ?_;(with_reducible refine (impl_Ahead.calls a1_0 a1_1 a0_0 a0_1 t294 _ A12.out).mono ?_);rintro e w17 ⟨rfl,hb⟩;refine ⟨_,rfl,?_⟩;have n_:=an_ (blk_below (pk_ BK291.out) hb)<|an_ (blk_below (pk_ BK292.out) hb)<|D (below_step (pB_ HB.out) hb);clear BK291 BK292 HB;obtain ⟨BK291,BK292,HB⟩:=n_;(try clear hb)))
  have H := HU13.out; clear HU13
  by_cases c18 : t294 = true
  ·subst c18
   rw [if_pos rfl] at H; obtain rfl := Option.some.inj H
   go_wp2
   go_ret; exact ⟨er_, pB_ HB.out⟩
  ·replace c18 := Bool.eq_false_iff.mpr c18
   subst c18; rw [if_neg (show ¬ (false = true) by decide)] at H; obtain rfl := Option.some.inj H
   go_wp2
   go_ret; exact ⟨er_, pB_ HB.out⟩

/-! ### impl_HeapOrder: function 7 -/
def impl_HeapOrder.f (k : Nat) (l0_0 : List (S32)) : Option ((List (S32))) := (impl_HeapOk.f k l0_0).bind fun t296 => (if t296 = true then ((slices_Clone_impl_Item_impl_Item.f l0_0).bind fun t297 => (if t297.length < 8796093022208 then (some (srt18 t297)) else (none))) else (some ([] : List (S32))))
set_option maxHeartbeats 8000000 in
set_option maxRecDepth 100000 in
theorem impl_HeapOrder.calls (k : Nat) (A0_0 : Option Addr) (c0_0 : Nat) (l0_0 r : List (S32)) (w : World) (hr0_0 : Kd.C k32 w A0_0 l0_0.length l0_0) (hc0_0 : l0_0.length ≤ c0_0) (h : impl_HeapOrder.f k l0_0 = some r) :
  Calls Try.prog 7 #[.agg #[Y A0_0 l0_0.length c0_0]] w fun e w' => ∃ v0_ : Value, e = .returned (v0_) ∧ Kd.R k32 32 w' w.heap.size (fun _ => True) v0_ r ∧ Below w.heap.size w w' := by
 have hu26 := Try.underlying26
 have HR0_0 := D hr0_0
 have HC0_0 := D hc0_0
 clear hr0_0 hc0_0
 have HB := D (Below.refl w.heap.size w)
 have H:((impl_HeapOk.f k l0_0).bind fun t296=>(if t296=true then ((slices_Clone_impl_Item_impl_Item.f l0_0).bind fun t297=>(if t297.length < 8796093022208 then (some (srt18 t297)) else (none))) else (some ([]:List (S32)))))=some r:=h
 clear h
 obtain ⟨t296, A20, H⟩ := bs_.mp H
 (try dsimp only at H)
 have A2 := D A20
 clear A20
 have HU3 := D H
 clear H
 go_enter Try.func7, Try.ntmps7
 go_upto_if 6 with (first|((with_reducible refine gate_dst (N:=1) rfl ?_);refine bx_ (N:=1) (cs:=#[Y A0_0 l0_0.length c0_0]) (t:=26) ?_;intro gb295 hg w4 hbox hb;have n_:=an_ (below_step (pB_ HB.out) hb)<|an_ (hbox)<|an_ (bg_ hg (pB_ HB.out):w.heap.size≤gb295)<|D (bg_ hg (pB_ HB.out):w.heap.size≤gb295);clear HB;obtain ⟨HB,BK295,GW295,GE295⟩:=n_;clear hb hbox hg;have hcz5_0:=cells1 BK295.out)|((with_reducible refine gate_callee (f:=16) rfl ?_);refine goesL_ (some 5) rfl rfl Try.func16 (by kernel_rfl) rfl #[.agg #[Y A0_0 l0_0.length c0_0]] rfl Z9 ?_;(with_reducible refine (impl_HeapOk.calls k _ _ l0_0 t296 _ ?side1 ?side2 A2.out).mono ?_);(case side1=>exact pC_ (Kd.C_below HR0_0.out HB.out));(case side2=>exact HC0_0.out);rintro e w6 ⟨rfl,hb⟩;refine ⟨_,rfl,?_⟩;have n_:=an_ (blk_below (pk_ BK295.out) hb)<|D (below_step (pB_ HB.out) hb);clear BK295 HB;obtain ⟨BK295,HB⟩:=n_;(try clear hb)))
 have H := HU3.out
 clear HU3
 by_cases c7 : t296 = true
 ·subst c7
  rw [if_pos rfl] at H; obtain ⟨t297, A80, H⟩ := bs_.mp H; (try dsimp only at H); have A8 := D A80; clear A80
  by_cases c9 : t297.length < 8796093022208
  ·rw [if_pos c9] at H
   have LMc9 := D c9; clear c9; obtain ⟨y300, hy300⟩ : ∃ y_ : List (S32), y_ = (srt18 t297) := ⟨_, rfl⟩
   replace H:(some y300)=some r:=by first|(rw [hy300];with_reducible exact H)|(have H2_:=(Option.bind_some _ _).symm.trans H;rw [hy300];with_reducible exact H2_)|(have H2_:=(Option.bind_some _ _).symm.trans H;with_reducible exact H2_)|with_reducible exact H|(rw [hy300];exact H)|exact H
   have Ny300 := D hy300; clear hy300; obtain rfl := Option.some.inj H; obtain ⟨hcz10_0, hfz10_0⟩ := cells1 BK295.out
   go_wp2_with (first|((with_reducible refine gate_callee (f:=17) rfl ?_);refine goesL_ (some 9) rfl rfl Try.func17 (by kernel_rfl) rfl #[Y A0_0 l0_0.length c0_0] rfl Z9 ?_;(with_reducible refine (slices_Clone_impl_Item_impl_Item.calls _ _ l0_0 t297 _ ?side1 ?side2 A8.out).mono ?_);(case side1=>exact pC_ (Kd.C_below HR0_0.out HB.out));(case side2=>exact HC0_0.out);rintro e w11 ⟨v298,rfl,ho0,hb⟩;refine ⟨_,rfl,?_⟩;have n_:=an_ (Kd.R_lower ho0 (below_size (pB_ HB.out)))<|an_ (blk_below (pk_ BK295.out) hb)<|D (below_step (pB_ HB.out) hb);clear BK295 HB;obtain ⟨HO299,BK295,HB⟩:=n_;(try clear hb);(try clear ho0))|((with_reducible refine gate_callee (f:=18) rfl ?_);refine goesL_ (some 11) rfl rfl Try.func18 (by kernel_rfl) rfl #[v298,.func (.func 19) #[] #[]] rfl (by (try simp only [List.map_toArray,List.map_cons,List.map_nil]);first|done|rfl|(go_simp;done)) ?_;refine (srt18_ (w0:=w) (base:=w.heap.size) (pR_ HO299.out) (pB_ HB.out) (below_size (pB_ HB.out)) (by have:=LMc9.out;omega)).mono ?_;rintro e w12 ⟨rfl,ho,hg,hb⟩;refine ⟨_,rfl,?_⟩;rw [← Ny300.out] at ho;have n_:=an_ (blk_grown (pk_ BK295.out) hg (Kd.R_ne HO299.out BK295.out (by decide)))<|an_ (ho)<|D (hb);clear BK295 HO299 HB;obtain ⟨BK295,HO299,HB⟩:=n_;clear ho hb hg))
   go_ret;exact ⟨_,er_,by (with_reducible repeat (first|apply Kd.R_alloc|apply Kd.R_drewN|apply Kd.R_drew));exact HO299.out,pB_ HB.out⟩
  ·rw [if_neg c9] at H
   exact absurd H (by simp)
 ·replace c7 := Bool.eq_false_iff.mpr c7
  subst c7; rw [if_neg (show ¬ (false = true) by decide)] at H; obtain rfl := Option.some.inj H
  go_wp2
  go_ret;exact ⟨_,er_,by first|exact Kd.R_nil _ _ _ _ _|exact Kd.N_nil _ _ _ _ _|exact Kd.V_nil _ _ _ _ _|exact Kd.Q_nil _ _ _ _ _|exact Kd.S_nil _ _ _ _ _,pB_ HB.out⟩

/-! ### spec_HeapOrder: function 8 -/
mutual
def spec_HeapOrder.l0 : Nat → List (S32) → Int → List (S32) → Option ((List (S32)))
 | 0, _, _, _ => none
 | k + 1, x3, x4, x302000 => if x4 < (x302000.length : Int) then (spec_HeapOrder.l1 k x3 x4 (x3.length : Int) x302000) else (some x3)
def spec_HeapOrder.l1 : Nat → List (S32) → Int → Int → List (S32) → Option ((List (S32)))
 | 0, _, _, _, _ => none
 | k + 1,x3,x4,x5,x302000=>if x5 > 0 then (if 0≤x4 then (if x4 < (x302000.length:Int) then (if 0≤(wrap64 (x5 - 1)) then (if (wrap64 (x5 - 1)) < (x3.length:Int) then ((spec_Ahead.f ((rd_T32 x302000 x4).f0) ((rd_T32 x302000 x4).f1) ((rd_T32 x3 (wrap64 (x5 - 1))).f0) ((rd_T32 x3 (wrap64 (x5 - 1))).f1)).bind fun t308=>(if t308=true then (spec_HeapOrder.l1 k x3 x4 (wrap64 (x5 - 1)) x302000) else ((some (([(⟨(rd_T32 x302000 x4).f0,(rd_T32 x302000 x4).f1⟩:S32)]:List (S32)):List (S32))).bind fun y310=>(if 0≤x5 then (if x5≤(x3.length:Int) then ((some (x3.drop (x5:Int).toNat:List (S32))).bind fun y313=>(if y310.length + y313.length < 8796093022208 then ((some (y310 ++ y313:List (S32))).bind fun y317=>((some (([]:List (S32)):List (S32))).bind fun y320=>((some (x3.take (x5:Int).toNat:List (S32))).bind fun y323=>(if y320.length + y323.length < 8796093022208 then ((some (y320 ++ y323:List (S32))).bind fun y327=>(if y327.length + y317.length < 8796093022208 then (spec_HeapOrder.l0 k (y327 ++ y317) (wrap64 (x4 + 1)) x302000) else (none))) else (none))))) else (none))) else (none)) else (none))))) else (none)) else (none)) else (none)) else (none)) else (if 0≤x4 then (if x4 < (x302000.length:Int) then ((some (([(⟨(rd_T32 x302000 x4).f0,(rd_T32 x302000 x4).f1⟩:S32)]:List (S32)):List (S32))).bind fun y334=>(if 0≤x5 then (if x5≤(x3.length:Int) then ((some (x3.drop (x5:Int).toNat:List (S32))).bind fun y337=>(if y334.length + y337.length < 8796093022208 then ((some (y334 ++ y337:List (S32))).bind fun y341=>((some (([]:List (S32)):List (S32))).bind fun y344=>((some (x3.take (x5:Int).toNat:List (S32))).bind fun y347=>(if y344.length + y347.length < 8796093022208 then ((some (y344 ++ y347:List (S32))).bind fun y351=>(if y351.length + y341.length < 8796093022208 then (spec_HeapOrder.l0 k (y351 ++ y341) (wrap64 (x4 + 1)) x302000) else (none))) else (none))))) else (none))) else (none)) else (none))) else (none)) else (none))
end
def spec_HeapOrder.f (k : Nat) (l0_0 : List (S32)) : Option ((List (S32))) := (some (([] : List (S32)) : List (S32))).bind fun y302 => ((spec_HeapOk.f k l0_0).bind fun t305 => (if t305 = true then (spec_HeapOrder.l0 k y302 0 l0_0) else (some y302)))
def spec_HeapOrder.T8 : Bool × List (List Nat × List Nat) := (true, [([], []), ([0], [0]), ([1], [1]), ([2], [2]), ([3, 2], [2, 3]), ([2], [2]), ([4, 5, 2], [2, 4, 5]), ([6, 2], [2, 6]), ([2], [2]), ([2], [2]), ([9, 2], [2, 9]), ([8, 10, 2], [2, 8, 10]), ([11, 2], [2, 11]), ([7, 12, 2, 2], [2, 7, 12]), ([2, 13], [2, 13])])
def spec_HeapOrder.B8 : List Nat := [0, 1, 3, 7, 15, 7, 63, 127, 7, 7, 519, 1799, 3847, 8191, 16383]
theorem spec_HeapOrder.tab8 : rtab .any (opsOf Try.f8 8) = spec_HeapOrder.T8 := by kernel_rfl
theorem spec_HeapOrder.bits8 : waitsOk spec_HeapOrder.T8.2 spec_HeapOrder.B8 = true := by kernel_rfl
def spec_HeapOrder.T10 : Bool × List (List Nat × List Nat) := (true, [([], []), ([0], [0]), ([], []), ([1, 2], [1, 2]), ([3], [3]), ([4], [4]), ([], []), ([], []), ([6, 7], [6, 7]), ([5, 8], [5, 8]), ([9, 9, 0, 1, 2, 3, 4, 5, 6, 7, 8, 9], [9])])
def spec_HeapOrder.B10 : List Nat := [0, 1, 0, 7, 15, 31, 0, 0, 192, 511, 1023]
theorem spec_HeapOrder.tab10 : rtab .any (opsOf Try.f8 10) = spec_HeapOrder.T10 := by kernel_rfl
theorem spec_HeapOrder.bits10 : waitsOk spec_HeapOrder.T10.2 spec_HeapOrder.B10 = true := by kernel_rfl
set_option maxHeartbeats 8000000 in
set_option maxRecDepth 100000 in
theorem spec_HeapOrder.calls (k : Nat) (A0_0 : Option Addr) (c0_0 : Nat) (l0_0 r : List (S32)) (w : World) (hr0_0 : Kd.C k32 w A0_0 l0_0.length l0_0) (hc0_0 : l0_0.length ≤ c0_0) (h : spec_HeapOrder.f k l0_0 = some r) :
  Calls Try.prog 8 #[.agg #[Y A0_0 l0_0.length c0_0]] w fun e w' => ∃ v0_ : Value, e = .returned (v0_) ∧ Kd.R k32 32 w' w.heap.size (fun _ => True) v0_ r ∧ Below w.heap.size w w' := by
 have hu26 := Try.underlying26
 have hu32 := Try.underlying32
 have HR0_0 := D hr0_0
 have HC0_0 := D hc0_0
 clear hr0_0 hc0_0
 have HB := D (Below.refl w.heap.size w)
 have H : ((some (([] : List (S32)) : List (S32))).bind fun y302 => ((spec_HeapOk.f k l0_0).bind fun Kb => (if Kb = true then (spec_HeapOrder.l0 k y302 0 l0_0) else (some y302)))) = some r := h
 clear h
 obtain ⟨y302, hy302⟩ : ∃ y_ : List (S32), y_ = (([] : List (S32))) := ⟨_, rfl⟩
 replace H:((spec_HeapOk.f k l0_0).bind fun Kb=>(if Kb=true then (spec_HeapOrder.l0 k y302 0 l0_0) else (some y302)))=some r:=by first|(rw [hy302];with_reducible exact H)|(have H2_:=(Option.bind_some _ _).symm.trans H;rw [hy302];with_reducible exact H2_)|(have H2_:=(Option.bind_some _ _).symm.trans H;with_reducible exact H2_)|with_reducible exact H|(rw [hy302];exact H)|exact H
 have Ny302 := D hy302
 clear hy302
 obtain ⟨Kb, A20, H⟩ := bs_.mp H
 (try dsimp only at H)
 have A2 := D A20
 clear A20
 have HU3 := D H
 clear H
 go_enter Try.func8, Try.ntmps8
 go_upto_if 10 with (first|((with_reducible refine gate_dst (N:=1) rfl ?_);refine bx_ (N:=1) (cs:=#[Y A0_0 l0_0.length c0_0]) (t:=26) ?_;intro Jb hg w4 hbox hb;have n_:=an_ (below_step (pB_ HB.out) hb)<|an_ (hbox)<|an_ (bg_ hg (pB_ HB.out):w.heap.size≤Jb)<|D (bg_ hg (pB_ HB.out):w.heap.size≤Jb);clear HB;obtain ⟨HB,Ka,Xf,Jg⟩:=n_;clear hb hbox hg)|((with_reducible refine gate_dst (N:=7) rfl ?_);refine Kd.R_lit k32 _ 32 ?hg (N:=7) ?hd (xs:=([]:List (S32))) (inner:=[]) (ok:=fun _=>True) (okp:=fun _=>True) ?hr ?hp (fun _ hk=>hk) trivial (Below.refl _ _) (Nat.le_refl _) (by simp) ?_;(case hd=>rfl);(case hg=>rfl);(case hr=>first|(go_simp;done)|(go_simp;rfl));(case hp=>exact (Reps.none _ _));intro Kg w5 ho6 hb hg_ hnew_;clear hg_ hnew_;(first|rw [← Ny302.out] at ho6|(simp only [Int.reduceToNat] at ho6;rw [← Ny302.out] at ho6));have n_:=an_ (Kd.R_lower ho6 (below_size (pB_ HB.out)))<|an_ (blk_below (pk_ Ka.out) hb)<|D (below_step (pB_ HB.out) hb);clear Ka HB;obtain ⟨Mb,Ka,HB⟩:=n_;clear hb ho6;have Xd:=cells1 Ka.out)|((with_reducible refine gate_callee (f:=6) rfl ?_);refine goesL_ (some 9) rfl rfl Try.func6 (by kernel_rfl) rfl #[.agg #[Y A0_0 l0_0.length c0_0]] rfl Z9 ?_;(with_reducible refine (spec_HeapOk.calls k _ _ l0_0 Kb _ ?side1 ?side2 A2.out).mono ?_);(case side1=>exact pC_ (Kd.C_below HR0_0.out HB.out));(case side2=>exact HC0_0.out);rintro e w8 ⟨rfl,hb⟩;refine ⟨_,rfl,?_⟩;have n_:=an_ (Kd.R_below (pR_ Mb.out) hb)<|an_ (blk_below (pk_ Ka.out) hb)<|D (below_step (pB_ HB.out) hb);clear Mb Ka HB;obtain ⟨Mb,Ka,HB⟩:=n_;(try clear hb)))
 have H := HU3.out
 clear HU3
 by_cases c9 : Kb = true
 ·subst c9
  rw [if_pos rfl] at H; have H' := D H; clear H
  go_wp2
  go_loopg [3,4] k (fun kq v3 v4 w'=>∃ (x3_1:List (S32)) (x4_1:Int),v4=I L x4_1∧Aside0 (spec_HeapOrder.l0 kq x3_1 x4_1 l0_0=some r)∧Aside0 (kq≤k)∧Aside0 (Kd.R k32 32 w' w.heap.size (fun _=>True) v3 x3_1)∧Aside0 (w'.heap[Jb]?=some (.cells #[(Y A0_0 l0_0.length c0_0)] 26 (0,0)))∧Aside0 (Below w.heap.size w w'))
  case atStart => exact ⟨(y302), (0), Z23, H', ⟨Nat.le_refl _⟩, ⟨pR_ Mb.out⟩, ⟨pk_ Ka.out⟩, ⟨pB_ HB.out⟩⟩
  case round =>
   clear H'
   (try clear p2);(try clear c6);(try clear c8);(try clear c9);(try clear Xd)
   obtain ⟨x3_1, x4_1, rfl, HA, HK1, Ja, Ka, HB⟩ := hrel
   cases gk with
   | zero => exact absurd HA.out (by simp [spec_HeapOrder.l0])
   | succ k1 =>
    have H := HA.out; clear HA; simp only [spec_HeapOrder.l0] at H
    by_cases c10 : x4_1 < (l0_0.length : Int)
    ·rw [if_pos c10] at H
     have c10b0:decide (x4_1 < (l0_0.length:Int))=true:=decide_eq_true c10;clear c10;refine rw_ c10b0 ?_;have H':=D H;clear H;have Ke:=cells1 Ka.out;obtain ⟨Oa,Ma,eo12⟩:=Kd.R_slice Ja.out;subst eo12
     go_wp2
     go_loopg [5] k1 (fun kq v5 w'=>∃ (x5_2:Int),v5=I L x5_2∧Aside0 (spec_HeapOrder.l1 kq x3_1 x4_1 x5_2 l0_0=some r)∧Aside0 (kq≤k1)∧Aside0 (Kd.R k32 32 w' w.heap.size (fun _=>True) (Y Oa x3_1.length Ma) x3_1)∧Aside0 (w'.heap[Jb]?=some (.cells #[(Y A0_0 l0_0.length c0_0)] 26 (0,0)))∧Aside0 (Below w.heap.size w w'))
     case atStart => exact ⟨((x3_1.length : Int)), Z23, H', ⟨Nat.le_refl _⟩, ⟨pR_ Ja.out⟩, ⟨pk_ Ka.out⟩, ⟨pB_ HB.out⟩⟩
     case round =>
      clear H'
      (try clear c1);(try clear p2);(try clear c6);(try clear c8);(try clear c9);(try clear c10);(try clear c10b0);(try clear Ke);(try clear Xd);(try clear p2)
      obtain ⟨x5_2, rfl, HA, HK2, Ja, Ka, HB⟩ := hrel
      cases gk with
      | zero => exact absurd HA.out (by simp [spec_HeapOrder.l1])
      | succ k2 =>
       have H := HA.out; clear HA; simp only [spec_HeapOrder.l1] at H
       by_cases c13 : x5_2 > 0
       ·rw [if_pos c13] at H
        have c13b0 : decide (0 < x5_2) = true := decide_eq_true c13; clear c13
        by_cases c14 : 0 ≤ x4_1
        ·rw [if_pos c14] at H
         have c14b0 : decide (0 ≤ x4_1) = true := decide_eq_true c14; clear c14
         by_cases c15 : x4_1 < (l0_0.length : Int)
         ·rw [if_pos c15] at H
          have c15b0 : decide (x4_1 < (l0_0.length : Int)) = true := decide_eq_true c15; clear c15; obtain ⟨ji16, hji16⟩ : ∃ j_ : Int, (wrap64 (x5_2 - 1)) = j_ := ⟨_, rfl⟩
          replace H:(if 0≤(ji16) then (if (ji16) < (x3_1.length:Int) then ((spec_Ahead.f ((rd_T32 l0_0 x4_1).f0) ((rd_T32 l0_0 x4_1).f1) ((rd_T32 x3_1 (ji16)).f0) ((rd_T32 x3_1 (ji16)).f1)).bind fun Oc=>(if Oc=true then (spec_HeapOrder.l1 k2 x3_1 x4_1 ji16 l0_0) else ((some (([(⟨(rd_T32 l0_0 x4_1).f0,(rd_T32 l0_0 x4_1).f1⟩:S32)]:List (S32)):List (S32))).bind fun y310=>(if 0≤x5_2 then (if x5_2≤(x3_1.length:Int) then ((some (x3_1.drop (x5_2:Int).toNat:List (S32))).bind fun y313=>(if y310.length + y313.length < 8796093022208 then ((some (y310 ++ y313:List (S32))).bind fun y317=>((some (([]:List (S32)):List (S32))).bind fun y320=>((some (x3_1.take (x5_2:Int).toNat:List (S32))).bind fun y323=>(if y320.length + y323.length < 8796093022208 then ((some (y320 ++ y323:List (S32))).bind fun y327=>(if y327.length + y317.length < 8796093022208 then (spec_HeapOrder.l0 k2 (y327 ++ y317) (wrap64 (x4_1 + 1)) l0_0) else (none))) else (none))))) else (none))) else (none)) else (none))))) else (none)) else (none))=some r:=by first|(rw [hji16] at H;exact H)|(simp only [hji16] at H ⊢;exact H)
          have hji16w : (IntKind.i64.wrap (x5_2 - 1)) = ji16 := (i64_w _).trans hji16
          by_cases c17 : 0 ≤ (ji16)
          ·rw [if_pos c17] at H
           have c17b0 : decide (0 ≤ (ji16)) = true := decide_eq_true c17; clear c17
           by_cases c18 : (ji16) < (x3_1.length : Int)
           ·rw [if_pos c18] at H
            have c18b0:decide ((ji16) < (x3_1.length:Int))=true:=decide_eq_true c18;clear c18;obtain ⟨Oc,A190,H⟩:=bs_.mp H;(try dsimp only at H);have A19:=D A190;clear A190;have HU20:=D H;clear H
            try go_wp2
            have n_ := an_ (Kd.R_drew Ja.out) <| an_ (blk_drew Ka.out) <| D (below_drew1 HB.out)
            clear Ja Ka HB;obtain ⟨Ja,Ka,HB⟩:=n_;have p306:0≤(x4_1:Int):=od_ Z22;have q306:x4_1 < (l0_0.length:Int):=od_ Z22;obtain ⟨ad306,e306,hx306_0,hx306_1⟩:=at_T32 HR0_0.out x4_1 p306 q306;have hw306_1:=hx306_1;have hw306_0:=hx306_0;cases e306;replace hx306_0:=rc_ HB.out hx306_0;replace hx306_1:=rc_ HB.out hx306_1;replace p306:=eq_true p306;replace q306:=eq_true q306;have p307:0≤((ji16):Int):=od_ Z22;have q307:(ji16) < (x3_1.length:Int):=od_ Z22;obtain ⟨ad307,e307,hx307_0,hx307_1⟩:=at_T32 (Kd.R_reads' Ja.out).2.2 (ji16) p307 q307;cases e307;replace p307:=eq_true p307;replace q307:=eq_true q307;refine start_ (n:=15) (S:=fun w'=>w'.cell? ⟨Jb,0,none⟩=some (Y (some ad306) l0_0.length c0_0)∧w'.cell? (ad306.add ((x4_1).toNat * 2))=some (I L ((rd_T32 l0_0 x4_1).f0))∧w'.cell? ⟨(ad306.add ((x4_1).toNat * 2)).block,(ad306.add ((x4_1).toNat * 2)).off + 1,none⟩=some (I L ((rd_T32 l0_0 x4_1).f1))∧w'.cell? (ad307.add (((ji16)).toNat * 2))=some (I L ((rd_T32 x3_1 (ji16)).f0))∧w'.cell? ⟨(ad307.add (((ji16)).toNat * 2)).block,(ad307.add (((ji16)).toNat * 2)).off + 1,none⟩=some (I L ((rd_T32 x3_1 (ji16)).f1))) (ds:=[]) (bz 15 0) (by kernel_rfl) rfl (by kernel_rfl) ⟨bc_ Ka.out 0,rk2_ HB.out hw306_0 hw306_1 ⟨hx307_0,hx307_1⟩⟩ (fun hHeld=>?_);refine with_tabW spec_HeapOrder.tab8 spec_HeapOrder.bits8 (fun HT_ HW_=>?_);generalize wr.drew=w21 at Ja Ka HB hx306_0 hx306_1 hx307_0 hx307_1 hHeld ⊢;refine pb_ 0 ?_;refine pb_ 1 ?_;refine pb_ 2 ?_;refine pb_ 3 ?_;refine pb_ 5 ?_;refine pb_ 8 ?_;refine pb_ 9 ?_;refine pb_ 10 ?_;refine pb_ 11 ?_;refine tb_ 4 rfl rfl hHeld Z20 ?_;refine pb_ 6 ?_;refine tb_ 7 rfl rfl hHeld Z20 ?_;refine tb_ 12 rfl rfl hHeld Z20 ?_;refine oa_ 13 34 15 16383 HT_ (fun K hK=>?_);refine goes_ Try.func15 (by kernel_rfl) rfl #[.agg #[I L ((rd_T32 l0_0 x4_1).f0),I L ((rd_T32 l0_0 x4_1).f1)],.agg #[I L ((rd_T32 x3_1 (ji16)).f0),I L ((rd_T32 x3_1 (ji16)).f1)]] (by rfl) rfl rfl (by (try simp only [List.map_toArray,List.map_cons,List.map_nil]);first|done|(simp only [hji16];rfl)|rfl|(simp only [List.length_drop,List.length_take];rfl)) ?_;with_reducible refine (spec_Ahead.calls ((rd_T32 l0_0 x4_1).f0) ((rd_T32 l0_0 x4_1).f1) ((rd_T32 x3_1 (ji16)).f0) ((rd_T32 x3_1 (ji16)).f1) Oc _ A19.out).mono ?_
            rintro e w22 ⟨rfl,hb⟩;have HS3_:=(hb.cell (World.block_lt_of_cell? _ _ (hHeld.2.2.2.1))).trans (hHeld.2.2.2.1);have HS4_:=(hb.cell (World.block_lt_of_cell? _ _ (hHeld.2.2.2.2))).trans (hHeld.2.2.2.2);refine ⟨_,rfl,?_⟩
            have n_ := an_ (Kd.R_below (pR_ Ja.out) hb) <| an_ (blk_below (pk_ Ka.out) hb) <| D (below_step (pB_ HB.out) hb)
            clear Ja Ka HB;obtain ⟨Ja,Ka,HB⟩:=n_;refine hK.out _ _ ⟨bc_ Ka.out 0,rk2_ HB.out hw306_0 hw306_1 ⟨HS3_,HS4_⟩⟩ (fun hHeld=>?_);clear hK K;refine nx_ (N:=some 34) ?_;refine pb_ 14 ?_;refine done_ (done_of HT_.out (by kernel_rfl)) ?_
            go_upto_if 35 with (fail)
            have H := HU20.out; clear HU20
            by_cases c23 : Oc = true
            ·subst c23
             rw [if_pos rfl] at H; have H' := D H; clear H
             go_wp2
             go_roundg k2
             case measure => have := HK1.out; have := HK2.out; omega
             case rel=>exact ⟨(ji16),(by first|rfl|(simp;done)|(simp only [← hji16] <;> (first|rfl|simp))|(simp [*];done)),H',⟨by have:=HK1.out;have:=HK2.out;omega⟩,⟨pR_ Ja.out⟩,⟨pk_ Ka.out⟩,⟨pB_ HB.out⟩⟩
            ·replace c23 := Bool.eq_false_iff.mpr c23
             subst c23;rw [if_neg (show ¬ (false=true) by decide)] at H;obtain ⟨y310,hy310⟩:∃ y_:List (S32),y_=(([(⟨(rd_T32 l0_0 x4_1).f0,(rd_T32 l0_0 x4_1).f1⟩:S32)]:List (S32))):=⟨_,rfl⟩
             replace H:(if 0≤x5_2 then (if x5_2≤(x3_1.length:Int) then ((some (x3_1.drop (x5_2:Int).toNat:List (S32))).bind fun y313=>(if y310.length + y313.length < 8796093022208 then ((some (y310 ++ y313:List (S32))).bind fun y317=>((some (([]:List (S32)):List (S32))).bind fun y320=>((some (x3_1.take (x5_2:Int).toNat:List (S32))).bind fun y323=>(if y320.length + y323.length < 8796093022208 then ((some (y320 ++ y323:List (S32))).bind fun y327=>(if y327.length + y317.length < 8796093022208 then (spec_HeapOrder.l0 k2 (y327 ++ y317) (wrap64 (x4_1 + 1)) l0_0) else (none))) else (none))))) else (none))) else (none)) else (none))=some r:=by first|(rw [hy310];with_reducible exact H)|(have H2_:=(Option.bind_some _ _).symm.trans H;rw [hy310];with_reducible exact H2_)|(have H2_:=(Option.bind_some _ _).symm.trans H;with_reducible exact H2_)|with_reducible exact H|(rw [hy310];exact H)|exact H
             have Ny310 := D hy310; clear hy310
             by_cases c24 : 0 ≤ x5_2
             ·rw [if_pos c24] at H
              have c24b0 := eq_true c24; have c24b1 : decide (0 ≤ x5_2) = true := decide_eq_true c24; clear c24
              by_cases c25 : x5_2 ≤ (x3_1.length : Int)
              ·rw [if_pos c25] at H
               have c25b0:=eq_true c25;have c25b1:decide (x5_2≤(x3_1.length:Int))=true:=decide_eq_true c25;clear c25;obtain ⟨y313,hy313⟩:∃ y_:List (S32),y_=(x3_1.drop (x5_2:Int).toNat):=⟨_,rfl⟩
               replace H:(if y310.length + y313.length < 8796093022208 then ((some (y310 ++ y313:List (S32))).bind fun y317=>((some (([]:List (S32)):List (S32))).bind fun y320=>((some (x3_1.take (x5_2:Int).toNat:List (S32))).bind fun y323=>(if y320.length + y323.length < 8796093022208 then ((some (y320 ++ y323:List (S32))).bind fun y327=>(if y327.length + y317.length < 8796093022208 then (spec_HeapOrder.l0 k2 (y327 ++ y317) (wrap64 (x4_1 + 1)) l0_0) else (none))) else (none))))) else (none))=some r:=by first|(rw [hy313];with_reducible exact H)|(have H2_:=(Option.bind_some _ _).symm.trans H;rw [hy313];with_reducible exact H2_)|(have H2_:=(Option.bind_some _ _).symm.trans H;with_reducible exact H2_)|with_reducible exact H|(rw [hy313];exact H)|exact H
               have Ny313 := D hy313; clear hy313
               by_cases c26 : y310.length + y313.length < 8796093022208
               ·rw [if_pos c26] at H
                have LMc26 := D c26; clear c26; obtain ⟨y317, hy317⟩ : ∃ y_ : List (S32), y_ = (y310 ++ y313) := ⟨_, rfl⟩
                replace H:((some (([]:List (S32)):List (S32))).bind fun y320=>((some (x3_1.take (x5_2:Int).toNat:List (S32))).bind fun y323=>(if y320.length + y323.length < 8796093022208 then ((some (y320 ++ y323:List (S32))).bind fun y327=>(if y327.length + y317.length < 8796093022208 then (spec_HeapOrder.l0 k2 (y327 ++ y317) (wrap64 (x4_1 + 1)) l0_0) else (none))) else (none))))=some r:=by first|(rw [hy317];with_reducible exact H)|(have H2_:=(Option.bind_some _ _).symm.trans H;rw [hy317];with_reducible exact H2_)|(have H2_:=(Option.bind_some _ _).symm.trans H;with_reducible exact H2_)|with_reducible exact H|(rw [hy317];exact H)|exact H
                have Ny317 := D hy317; clear hy317; obtain ⟨y320, hy320⟩ : ∃ y_ : List (S32), y_ = (([] : List (S32))) := ⟨_, rfl⟩
                replace H:((some (x3_1.take (x5_2:Int).toNat:List (S32))).bind fun y323=>(if y320.length + y323.length < 8796093022208 then ((some (y320 ++ y323:List (S32))).bind fun y327=>(if y327.length + y317.length < 8796093022208 then (spec_HeapOrder.l0 k2 (y327 ++ y317) (wrap64 (x4_1 + 1)) l0_0) else (none))) else (none)))=some r:=by first|(rw [hy320];with_reducible exact H)|(have H2_:=(Option.bind_some _ _).symm.trans H;rw [hy320];with_reducible exact H2_)|(have H2_:=(Option.bind_some _ _).symm.trans H;with_reducible exact H2_)|with_reducible exact H|(rw [hy320];exact H)|exact H
                have Ny320:=D hy320;clear hy320;have c27b0:=eq_true (od_ Z22:0≤x5_2);have c28b0:=eq_true (od_ Z22:x5_2≤(x3_1.length:Int));obtain ⟨y323,hy323⟩:∃ y_:List (S32),y_=(x3_1.take (x5_2:Int).toNat):=⟨_,rfl⟩
                replace H:(if y320.length + y323.length < 8796093022208 then ((some (y320 ++ y323:List (S32))).bind fun y327=>(if y327.length + y317.length < 8796093022208 then (spec_HeapOrder.l0 k2 (y327 ++ y317) (wrap64 (x4_1 + 1)) l0_0) else (none))) else (none))=some r:=by first|(rw [hy323];with_reducible exact H)|(have H2_:=(Option.bind_some _ _).symm.trans H;rw [hy323];with_reducible exact H2_)|(have H2_:=(Option.bind_some _ _).symm.trans H;with_reducible exact H2_)|with_reducible exact H|(rw [hy323];exact H)|exact H
                have Ny323 := D hy323; clear hy323
                by_cases c29 : y320.length + y323.length < 8796093022208
                ·rw [if_pos c29] at H
                 have LMc29 := D c29; clear c29; obtain ⟨y327, hy327⟩ : ∃ y_ : List (S32), y_ = (y320 ++ y323) := ⟨_, rfl⟩
                 replace H:(if y327.length + y317.length < 8796093022208 then (spec_HeapOrder.l0 k2 (y327 ++ y317) (wrap64 (x4_1 + 1)) l0_0) else (none))=some r:=by first|(rw [hy327];with_reducible exact H)|(have H2_:=(Option.bind_some _ _).symm.trans H;rw [hy327];with_reducible exact H2_)|(have H2_:=(Option.bind_some _ _).symm.trans H;with_reducible exact H2_)|with_reducible exact H|(rw [hy327];exact H)|exact H
                 have Ny327 := D hy327; clear hy327
                 by_cases c30 : y327.length + y317.length < 8796093022208
                 ·rw [if_pos c30] at H
                  have LMc30 := D c30; clear c30; obtain ⟨y330, hy330⟩ : ∃ y_ : List (S32), y_ = (y327 ++ y317) := ⟨_, rfl⟩
                  replace H:(spec_HeapOrder.l0 k2 y330 (wrap64 (x4_1 + 1)) l0_0)=some r:=by first|(rw [hy330];with_reducible exact H)|(have H2_:=(Option.bind_some _ _).symm.trans H;rw [hy330];with_reducible exact H2_)|(have H2_:=(Option.bind_some _ _).symm.trans H;with_reducible exact H2_)|with_reducible exact H|(rw [hy330];exact H)|exact H
                  have Ny330 := D hy330; clear hy330; have H' := D H; clear H
                  try go_wp2
                  have n_ := an_ (Kd.R_drew Ja.out) <| an_ (blk_drew Ka.out) <| D (below_drew1 HB.out)
                  clear Ja Ka HB;obtain ⟨Ja,Ka,HB⟩:=n_;have p309:0≤(x4_1:Int):=od_ Z22;have q309:x4_1 < (l0_0.length:Int):=od_ Z22;obtain ⟨ad309,e309,hx309_0,hx309_1⟩:=at_T32 HR0_0.out x4_1 p309 q309;have hw309_1:=hx309_1;have hw309_0:=hx309_0;obtain rfl:ad306=ad309:=(by injection e309);replace hx309_0:=rc_ HB.out hx309_0;replace hx309_1:=rc_ HB.out hx309_1;replace p309:=eq_true p309;replace q309:=eq_true q309;have q32:(x5_2:Int)≤((x3_1.length:Int):Int):=od_ Z22;obtain ⟨i032,hi032,_,hsz32,_⟩:=info_parts info32;have hroom32:x3_1.length≤Ma:=(Kd.R_reads' Ja.out).2.1;have hC32:Kd.C k32 _ (some ad307) x3_1.length x3_1:=(Kd.R_reads' Ja.out).2.2;have q032:(0:Int)≤(x5_2:Int):=od_ Z22;have hcut32:=cut_from (P:=Try.prog) 24 32 .i64 Try.underlying24 hi032 2 hsz32 (some ad307) x3_1.length Ma x5_2 q032 q32;have hr32:=Kd.C_drop (m:=(x5_2:Int).toNat) (c:=Ma) hC32 (by omega) hroom32;obtain ⟨A32,hA32⟩:∃ A1,A1=(if Ma=(x5_2:Int).toNat then (some ad307) else ((some ad307):Option Addr).map (·.add ((x5_2:Int).toNat * 2))):=⟨_,rfl⟩;obtain ⟨c32,hc32⟩:∃ c1,c1=Ma - (x5_2:Int).toNat:=⟨_,rfl⟩;have hy32:y313.length=x3_1.length - (x5_2:Int).toNat:=(by rw [Ny313.out,List.length_drop] <;> omega);rw [show (x3_1).drop (x5_2:Int).toNat=y313 from Ny313.out.symm] at hr32;replace hr32:Kd.C k32 _ A32 y313.length y313:=(by rw [hA32];exact hr32);rw [← hy32,← hA32,← hc32] at hcut32;have HR316:=D hr32;have HC316:=D (show y313.length≤c32 from by rw [hy32,hc32];exact Nat.sub_le_sub_right hroom32 _);clear hr32 hC32 hroom32 hi032 hsz32 hc32;have KY32:=D hy32;have KA32:=D hA32;clear hy32 hA32;have KL32:=D (show (x5_2:Int).toNat≤x3_1.length from by omega);replace q32:=eq_true q32;refine start_ (n:=11) (S:=fun w'=>w'.cell? ⟨Jb,0,none⟩=some (Y (some ad306) l0_0.length c0_0)∧w'.cell? (ad306.add ((x4_1).toNat * 2))=some (I L ((rd_T32 l0_0 x4_1).f0))∧w'.cell? ⟨(ad306.add ((x4_1).toNat * 2)).block,(ad306.add ((x4_1).toNat * 2)).off + 1,none⟩=some (I L ((rd_T32 l0_0 x4_1).f1))) (ds:=[]) (bz 11 0) (by kernel_rfl) rfl (by kernel_rfl) ⟨bc_ Ka.out 0,(rc_ HB.out hw309_0:),(rc_ HB.out hw309_1:)⟩ (fun hHeld=>?_);refine with_tabW spec_HeapOrder.tab10 spec_HeapOrder.bits10 (fun HT_ HW_=>?_);generalize w22.drew=w31 at Ja Ka HB HR316 hx309_0 hx309_1 hHeld ⊢;refine pb_ 0 ?_;refine pb_ 2 ?_;refine pb_ 6 ?_;refine pb_ 7 ?_;refine pb_ 8 ?_;refine tb_ 1 rfl rfl hHeld Z21 ?_;refine pb_ 3 ?_;refine tb_ 4 rfl rfl hHeld Z21 ?_;refine oa_ 5 43 11 511 HT_ (fun K hK=>?_);refine Kd.R_lit_step k32 _ 32 ?hg (N:=43) ?hd (xs:=([(⟨(rd_T32 l0_0 x4_1).f0,(rd_T32 l0_0 x4_1).f1⟩:S32)]:List (S32))) (inner:=[I L ((rd_T32 l0_0 x4_1).f0),I L ((rd_T32 l0_0 x4_1).f1)]) (ok:=fun _=>True) (okp:=fun _=>True) ?hr ?hp (fun _ hk=>hk) trivial (Below.refl _ _) (Nat.le_refl _) (by simp) ?_;(case hd=>rfl);(case hg=>rfl);(case hr=>first|(go_simp;done)|(go_simp;rfl));(case hp=>exact (Reps.c2 (show Kd.M k32 _ _ _ (⟨(rd_T32 l0_0 x4_1).f0,(rd_T32 l0_0 x4_1).f1⟩:S32) [I L ((rd_T32 l0_0 x4_1).f0),I L ((rd_T32 l0_0 x4_1).f1)] from (k32_mkM _ _ _ (⟨(rd_T32 l0_0 x4_1).f0,(rd_T32 l0_0 x4_1).f1⟩:S32) )) (Reps.none _ _)))
                  intro Oe w33 ho34 hb hg_ hnew_; clear hg_ hnew_; (first | rw [← Ny310.out] at ho34 | (simp only [Int.reduceToNat] at ho34; rw [← Ny310.out] at ho34))
                  have n_:=an_ (Kd.R_elder' (pR_ Ja.out) (Kd.R_base ho34) hb)<|an_ (Kd.R_lower (nw_ ho34 (pR_ Ja.out)) (below_size (pB_ HB.out)))<|an_ (blk_below (pk_ Ka.out) hb)<|an_ (Kd.C_below Z4 hb)<|D (below_step (pB_ HB.out) hb)
                  clear Ja Ka HR316 HB;obtain ⟨Ja,Uc,Ka,HR316,HB⟩:=n_;clear hb ho34;refine hK.out _ _ ⟨bc_ Ka.out 0,(rc_ HB.out hw309_0:),(rc_ HB.out hw309_1:)⟩ (fun hHeld=>?_);clear hK K;refine nx_ (N:=some 43) ?_;refine oa_ 9 47 11 1023 HT_ (fun K hK=>?_);refine Kd.R_append_rows_step k32 (w0:=w) w.heap.size (by rfl) (.tmp 43) (.tmp 46) 24 32 (.agg #[(I L 0),(I L 0)]) 16 rfl Try.underlying24 info32 rfl (by decide) (by omega) Oe y310 y313 _ _ _ (fun k_=>some k_≠(Y (some ad307) x3_1.length Ma:Value).ownBlock) (fun _=>False) rfl rfl ?aO ?aR (fun _ _ h=>h) (fun _ h=>h.elim) ?aF ?aB ?aS ?aL ?_;(case aR=>repeat (first|exact Z4|(with_reducible refine Kd.C_alloc ?_ _)|(with_reducible refine Kd.C_drewN ?_ _)|(with_reducible refine Kd.C_drew ?_)));(case aB=>exact (pB_ HB.out));(case aF=>exact (fun k_ hk=>Kd.fresh' (Kd.R_lt (pR_ Ja.out)) k_ hk));(case aO=>exact (pR_ (Kd.R_mono Uc.out (fun _ hk=>hk.2))));(case aS=>exact (below_size (pB_ HB.out)));(case aL=>have:=LMc26.out;omega);intro Ob w35 ho hb hg hat;rw [← Ny317.out] at ho
                  have n_:=an_ (Kd.R_after (ok:=(fun _=>True)) (pR_ Ja.out) hg hat)<|an_ (blk_grown (pk_ Ka.out) hg (Kd.R_ne Uc.out Ka.out (by decide)))<|an_ (hb)<|an_ ((show Kd.C k32 w35 A32 y313.length y313 from by rw [Ny313.out,KA32.out];exact Kd.C_drop (m:=(x5_2:Int).toNat) (c:=Ma) ((Kd.R_reads' (Kd.R_after (ok:=(fun _=>True)) (pR_ Ja.out) hg hat)).2.2) KL32.out ((Kd.R_reads' (Kd.R_after (ok:=(fun _=>True)) (pR_ Ja.out) hg hat)).2.1)))<|D (ho)
                  clear Ja Ka HB HR316 Uc;obtain ⟨Ja,Ka,HB,HR316,Ua⟩:=n_;clear ho hb hg hat;refine hK.out _ _ ⟨bc_ Ka.out 0,(rc_ HB.out hw309_0:),(rc_ HB.out hw309_1:)⟩ (fun hHeld=>?_);clear hK K;refine nx_ (N:=some 47) ?_;refine pb_ 10 ?_;refine done_ (done_of HT_.out (by kernel_rfl)) ?_
                  try go_wp2_with (first|((with_reducible refine gate_dst (N:=48) rfl ?_);refine Kd.R_lit k32 _ 32 ?hg (N:=48) ?hd (xs:=([]:List (S32))) (inner:=[]) (ok:=fun _=>True) (okp:=fun _=>True) ?hr ?hp (fun _ hk=>hk) trivial (Below.refl _ _) (Nat.le_refl _) (by simp) ?_;(case hd=>rfl);(case hg=>rfl);(case hr=>first|(go_simp;done)|(go_simp;rfl));(case hp=>exact (Reps.none _ _));intro Ue w36 ho37 hb hg_ hnew_;clear hg_ hnew_;(first|rw [← Ny320.out] at ho37|(simp only [Int.reduceToNat] at ho37;rw [← Ny320.out] at ho37));have n_:=an_ (Kd.R_elder' (pR_ Ja.out) (Kd.R_base ho37) hb)<|an_ (Kd.R_elder' (pR_ Ua.out) (Kd.R_base ho37) hb)<|an_ (Kd.R_lower (nw_ (nw_ ho37 (pR_ Ja.out)) (pR_ Ua.out)) (below_size (pB_ HB.out)))<|an_ (blk_below (pk_ Ka.out) hb)<|an_ (Kd.C_below Z4 hb)<|D (below_step (pB_ HB.out) hb);clear Ja Ua Ka HR316 HB;obtain ⟨Ja,Ua,Xc,Ka,HR316,HB⟩:=n_;clear hb ho37;have q38:(x5_2:Int)≤((x3_1.length:Int):Int):=od_ Z22;obtain ⟨i038,hi038,_,hsz38,_⟩:=info_parts info32;have hroom38:x3_1.length≤Ma:=(Kd.R_reads' Ja.out).2.1;have hC38:Kd.C k32 _ (some ad307) x3_1.length x3_1:=(Kd.R_reads' Ja.out).2.2;have hcut38:=cut_to (P:=Try.prog) 24 32 .i64 Try.underlying24 hi038 (some ad307) x3_1.length Ma x5_2 (od_ Z22) q38 hroom38;have hr38:=Kd.C_take (m:=(x5_2:Int).toNat) hC38 (by omega);have hy38:y323.length=(x5_2:Int).toNat:=(by rw [Ny323.out,List.length_take];omega);rw [← Ny323.out] at hr38;rw [← hy38] at hcut38;have HR326:=D hr38;have HC326:=D (show y323.length≤Ma from by omega);clear hr38 hC38 hroom38 hi038 hsz38;have KY38:=D hy38;clear hy38;have KL38:=D (show (x5_2:Int).toNat≤x3_1.length from by omega);replace q38:=eq_true q38)|((with_reducible refine gate_builtin (b:=.append) (xs:=#[.tmp 48,.tmp 51]) rfl ?_);at_builtin;refine Kd.R_append_rows k32 (w0:=w) w.heap.size rfl (.tmp 48) (.tmp 51) 24 32 (.agg #[(I L 0),(I L 0)]) 16 rfl Try.underlying24 info32 rfl (by decide) (by omega) Ue y320 y323 _ _ _ (fun k_=>some k_≠(Y (some ad307) x3_1.length Ma:Value).ownBlock∧some k_≠(Ob:Value).ownBlock) (fun _=>False) rfl rfl ?aO ?aR (fun _ _ h=>h) (fun _ h=>h.elim) ?aF ?aB ?aS ?aL ?_;(case aR=>repeat (first|exact (by repeat (first|(with_reducible exact HR326.out)|(with_reducible refine Kd.C_alloc ?_ _)|(with_reducible refine Kd.C_drewN ?_ _)|(with_reducible refine Kd.C_drew ?_)|exact HR326.out))|(with_reducible refine Kd.C_alloc ?_ _)|(with_reducible refine Kd.C_drewN ?_ _)|(with_reducible refine Kd.C_drew ?_)));(case aB=>exact (pB_ HB.out));(case aF=>exact (fun k_ hk=>⟨Kd.fresh' (Kd.R_lt (pR_ Ja.out)) k_ hk,Kd.fresh' (Kd.R_lt (pR_ Ua.out)) k_ hk⟩));(case aO=>exact (pR_ (Kd.R_mono Xc.out (fun _ hk=>⟨hk.1.2,hk.2⟩))));(case aS=>exact (below_size (pB_ HB.out)));(case aL=>have:=LMc29.out;omega);intro Xe w39 ho hb hg hat;rw [← Ny327.out] at ho;have n_:=an_ (Kd.R_after (ok:=(fun k_=>some k_≠(Ob:Value).ownBlock)) (pR_ (Kd.R_mono Ja.out (fun _ hk=>⟨hk.1.2,hk.2⟩))) hg hat)<|an_ (blk_grown (pk_ Ka.out) hg (Kd.R_ne Xc.out Ka.out (by decide)))<|an_ (Kd.R_after (ok:=(fun k_=>some k_≠(Y (some ad307) x3_1.length Ma:Value).ownBlock)) (pR_ Ua.out) hg hat)<|an_ (hb)<|an_ ((show Kd.C k32 w39 A32 y313.length y313 from by rw [Ny313.out,KA32.out];exact Kd.C_drop (m:=(x5_2:Int).toNat) (c:=Ma) ((Kd.R_reads' (Kd.R_after (ok:=(fun k_=>some k_≠(Ob:Value).ownBlock)) (pR_ (Kd.R_mono Ja.out (fun _ hk=>⟨hk.1.2,hk.2⟩))) hg hat)).2.2) KL32.out ((Kd.R_reads' (Kd.R_after (ok:=(fun k_=>some k_≠(Ob:Value).ownBlock)) (pR_ (Kd.R_mono Ja.out (fun _ hk=>⟨hk.1.2,hk.2⟩))) hg hat)).2.1)))<|an_ ((show Kd.C k32 w39 (some ad307) y323.length y323 from by rw [Ny323.out];exact Kd.C_take (m:=(x5_2:Int).toNat) ((Kd.R_reads' (Kd.R_after (ok:=(fun k_=>some k_≠(Ob:Value).ownBlock)) (pR_ (Kd.R_mono Ja.out (fun _ hk=>⟨hk.1.2,hk.2⟩))) hg hat)).2.2) KL38.out))<|D (ho);clear Ja Ka Ua HB HR316 HR326 Xc;obtain ⟨Ja,Ka,Ua,HB,HR316,HR326,Jd⟩:=n_;clear ho hb hg hat;obtain ⟨Ub,Xb,eo41⟩:=Kd.R_slice Ua.out;subst eo41)|((with_reducible refine gate_builtin (b:=.append) (xs:=#[.tmp 52,.tmp 53]) rfl ?_);at_builtin;refine Kd.R_append_rows k32 (w0:=w) w.heap.size rfl (.tmp 52) (.tmp 53) 24 32 (.agg #[(I L 0),(I L 0)]) 16 rfl Try.underlying24 info32 rfl (by decide) (by omega) Xe y327 y317 _ _ _ (fun k_=>some k_≠(Y (some ad307) x3_1.length Ma:Value).ownBlock∧some k_≠(Y Ub y317.length Xb:Value).ownBlock) (fun _=>False) rfl rfl ?aO ?aR (fun _ _ h=>h) (fun _ h=>h.elim) ?aF ?aB ?aS ?aL ?_;(case aR=>exact pC_ ((Kd.R_reads' Ua.out).2.2));(case aB=>exact (pB_ HB.out));(case aF=>exact (fun k_ hk=>⟨Kd.fresh' (Kd.R_lt (pR_ Ja.out)) k_ hk,Kd.fresh' (Kd.R_lt (pR_ Ua.out)) k_ hk⟩));(case aO=>exact (pR_ Jd.out));(case aS=>exact (below_size (pB_ HB.out)));(case aL=>have:=LMc30.out;omega);intro Mg w40 ho hb hg hat;rw [← Ny330.out] at ho;have n_:=an_ (Kd.R_after (ok:=(fun k_=>some k_≠(Y Ub y317.length Xb:Value).ownBlock)) (pR_ Ja.out) hg hat)<|an_ (blk_grown (pk_ Ka.out) hg (Kd.R_ne Jd.out Ka.out (by decide)))<|an_ (Kd.R_after (ok:=(fun k_=>some k_≠(Y (some ad307) x3_1.length Ma:Value).ownBlock)) (pR_ Ua.out) hg hat)<|an_ (hb)<|an_ ((show Kd.C k32 w40 A32 y313.length y313 from by rw [Ny313.out,KA32.out];exact Kd.C_drop (m:=(x5_2:Int).toNat) (c:=Ma) ((Kd.R_reads' (Kd.R_after (ok:=(fun k_=>some k_≠(Y Ub y317.length Xb:Value).ownBlock)) (pR_ Ja.out) hg hat)).2.2) KL32.out ((Kd.R_reads' (Kd.R_after (ok:=(fun k_=>some k_≠(Y Ub y317.length Xb:Value).ownBlock)) (pR_ Ja.out) hg hat)).2.1)))<|an_ ((show Kd.C k32 w40 (some ad307) y323.length y323 from by rw [Ny323.out];exact Kd.C_take (m:=(x5_2:Int).toNat) ((Kd.R_reads' (Kd.R_after (ok:=(fun k_=>some k_≠(Y Ub y317.length Xb:Value).ownBlock)) (pR_ Ja.out) hg hat)).2.2) KL38.out))<|D (ho);clear Ja Ka Ua HB HR316 HR326 Jd;obtain ⟨Ja,Ka,Ua,HB,HR316,HR326,Jf⟩:=n_;clear ho hb hg hat))
                  go_roundg k2
                  case measure => have := HK1.out; have := HK2.out; omega
                  case rel => exact ⟨(y330), (wrap64 (x4_1 + 1)), Z23, H', ⟨by have := HK1.out; have := HK2.out; omega⟩, ⟨pR_ (Kd.R_mono Jf.out (fun _ hk => trivial))⟩, ⟨pk_ Ka.out⟩, ⟨pB_ HB.out⟩⟩
                 ·rw [if_neg c30] at H
                  exact absurd H (by simp)
                ·rw [if_neg c29] at H
                 exact absurd H (by simp)
               ·rw [if_neg c26] at H
                exact absurd H (by simp)
              ·rw [if_neg c25] at H
               exact absurd H (by simp)
             ·rw [if_neg c24] at H
              exact absurd H (by simp)
           ·rw [if_neg c18] at H
            exact absurd H (by simp)
          ·rw [if_neg c17] at H
           exact absurd H (by simp)
         ·rw [if_neg c15] at H
          exact absurd H (by simp)
        ·rw [if_neg c14] at H
         exact absurd H (by simp)
       ·rw [if_neg c13] at H
        have c13b0 : decide (0 < x5_2) = false := decide_eq_false c13; clear c13
        by_cases c42 : 0 ≤ x4_1
        ·rw [if_pos c42] at H
         have c42b0 : decide (0 ≤ x4_1) = true := decide_eq_true c42; clear c42
         by_cases c43 : x4_1 < (l0_0.length : Int)
         ·rw [if_pos c43] at H
          have c43b0:decide (x4_1 < (l0_0.length:Int))=true:=decide_eq_true c43;clear c43;obtain ⟨y334,hy334⟩:∃ y_:List (S32),y_=(([(⟨(rd_T32 l0_0 x4_1).f0,(rd_T32 l0_0 x4_1).f1⟩:S32)]:List (S32))):=⟨_,rfl⟩
          replace H:(if 0≤x5_2 then (if x5_2≤(x3_1.length:Int) then ((some (x3_1.drop (x5_2:Int).toNat:List (S32))).bind fun y337=>(if y334.length + y337.length < 8796093022208 then ((some (y334 ++ y337:List (S32))).bind fun y341=>((some (([]:List (S32)):List (S32))).bind fun y344=>((some (x3_1.take (x5_2:Int).toNat:List (S32))).bind fun y347=>(if y344.length + y347.length < 8796093022208 then ((some (y344 ++ y347:List (S32))).bind fun y351=>(if y351.length + y341.length < 8796093022208 then (spec_HeapOrder.l0 k2 (y351 ++ y341) (wrap64 (x4_1 + 1)) l0_0) else (none))) else (none))))) else (none))) else (none)) else (none))=some r:=by first|(rw [hy334];with_reducible exact H)|(have H2_:=(Option.bind_some _ _).symm.trans H;rw [hy334];with_reducible exact H2_)|(have H2_:=(Option.bind_some _ _).symm.trans H;with_reducible exact H2_)|with_reducible exact H|(rw [hy334];exact H)|exact H
          have Ny334 := D hy334; clear hy334
          by_cases c44 : 0 ≤ x5_2
          ·rw [if_pos c44] at H
           have c44b0 := eq_true c44; have c44b1 : decide (0 ≤ x5_2) = true := decide_eq_true c44; clear c44
           by_cases c45 : x5_2 ≤ (x3_1.length : Int)
           ·rw [if_pos c45] at H
            have c45b0:=eq_true c45;have c45b1:decide (x5_2≤(x3_1.length:Int))=true:=decide_eq_true c45;clear c45;obtain ⟨y337,hy337⟩:∃ y_:List (S32),y_=(x3_1.drop (x5_2:Int).toNat):=⟨_,rfl⟩
            replace H:(if y334.length + y337.length < 8796093022208 then ((some (y334 ++ y337:List (S32))).bind fun y341=>((some (([]:List (S32)):List (S32))).bind fun y344=>((some (x3_1.take (x5_2:Int).toNat:List (S32))).bind fun y347=>(if y344.length + y347.length < 8796093022208 then ((some (y344 ++ y347:List (S32))).bind fun y351=>(if y351.length + y341.length < 8796093022208 then (spec_HeapOrder.l0 k2 (y351 ++ y341) (wrap64 (x4_1 + 1)) l0_0) else (none))) else (none))))) else (none))=some r:=by first|(rw [hy337];with_reducible exact H)|(have H2_:=(Option.bind_some _ _).symm.trans H;rw [hy337];with_reducible exact H2_)|(have H2_:=(Option.bind_some _ _).symm.trans H;with_reducible exact H2_)|with_reducible exact H|(rw [hy337];exact H)|exact H
            have Ny337 := D hy337; clear hy337
            by_cases c46 : y334.length + y337.length < 8796093022208
            ·rw [if_pos c46] at H
             have LMc46 := D c46; clear c46; obtain ⟨y341, hy341⟩ : ∃ y_ : List (S32), y_ = (y334 ++ y337) := ⟨_, rfl⟩
             replace H:((some (([]:List (S32)):List (S32))).bind fun y344=>((some (x3_1.take (x5_2:Int).toNat:List (S32))).bind fun y347=>(if y344.length + y347.length < 8796093022208 then ((some (y344 ++ y347:List (S32))).bind fun y351=>(if y351.length + y341.length < 8796093022208 then (spec_HeapOrder.l0 k2 (y351 ++ y341) (wrap64 (x4_1 + 1)) l0_0) else (none))) else (none))))=some r:=by first|(rw [hy341];with_reducible exact H)|(have H2_:=(Option.bind_some _ _).symm.trans H;rw [hy341];with_reducible exact H2_)|(have H2_:=(Option.bind_some _ _).symm.trans H;with_reducible exact H2_)|with_reducible exact H|(rw [hy341];exact H)|exact H
             have Ny341 := D hy341; clear hy341; obtain ⟨y344, hy344⟩ : ∃ y_ : List (S32), y_ = (([] : List (S32))) := ⟨_, rfl⟩
             replace H:((some (x3_1.take (x5_2:Int).toNat:List (S32))).bind fun y347=>(if y344.length + y347.length < 8796093022208 then ((some (y344 ++ y347:List (S32))).bind fun y351=>(if y351.length + y341.length < 8796093022208 then (spec_HeapOrder.l0 k2 (y351 ++ y341) (wrap64 (x4_1 + 1)) l0_0) else (none))) else (none)))=some r:=by first|(rw [hy344];with_reducible exact H)|(have H2_:=(Option.bind_some _ _).symm.trans H;rw [hy344];with_reducible exact H2_)|(have H2_:=(Option.bind_some _ _).symm.trans H;with_reducible exact H2_)|with_reducible exact H|(rw [hy344];exact H)|exact H
             have Ny344:=D hy344;clear hy344;have c47b0:=eq_true (od_ Z22:0≤x5_2);have c48b0:=eq_true (od_ Z22:x5_2≤(x3_1.length:Int));obtain ⟨y347,hy347⟩:∃ y_:List (S32),y_=(x3_1.take (x5_2:Int).toNat):=⟨_,rfl⟩
             replace H:(if y344.length + y347.length < 8796093022208 then ((some (y344 ++ y347:List (S32))).bind fun y351=>(if y351.length + y341.length < 8796093022208 then (spec_HeapOrder.l0 k2 (y351 ++ y341) (wrap64 (x4_1 + 1)) l0_0) else (none))) else (none))=some r:=by first|(rw [hy347];with_reducible exact H)|(have H2_:=(Option.bind_some _ _).symm.trans H;rw [hy347];with_reducible exact H2_)|(have H2_:=(Option.bind_some _ _).symm.trans H;with_reducible exact H2_)|with_reducible exact H|(rw [hy347];exact H)|exact H
             have Ny347 := D hy347; clear hy347
             by_cases c49 : y344.length + y347.length < 8796093022208
             ·rw [if_pos c49] at H
              have LMc49 := D c49; clear c49; obtain ⟨y351, hy351⟩ : ∃ y_ : List (S32), y_ = (y344 ++ y347) := ⟨_, rfl⟩
              replace H:(if y351.length + y341.length < 8796093022208 then (spec_HeapOrder.l0 k2 (y351 ++ y341) (wrap64 (x4_1 + 1)) l0_0) else (none))=some r:=by first|(rw [hy351];with_reducible exact H)|(have H2_:=(Option.bind_some _ _).symm.trans H;rw [hy351];with_reducible exact H2_)|(have H2_:=(Option.bind_some _ _).symm.trans H;with_reducible exact H2_)|with_reducible exact H|(rw [hy351];exact H)|exact H
              have Ny351 := D hy351; clear hy351
              by_cases c50 : y351.length + y341.length < 8796093022208
              ·rw [if_pos c50] at H
               have LMc50 := D c50; clear c50; obtain ⟨y354, hy354⟩ : ∃ y_ : List (S32), y_ = (y351 ++ y341) := ⟨_, rfl⟩
               replace H:(spec_HeapOrder.l0 k2 y354 (wrap64 (x4_1 + 1)) l0_0)=some r:=by first|(rw [hy354];with_reducible exact H)|(have H2_:=(Option.bind_some _ _).symm.trans H;rw [hy354];with_reducible exact H2_)|(have H2_:=(Option.bind_some _ _).symm.trans H;with_reducible exact H2_)|with_reducible exact H|(rw [hy354];exact H)|exact H
               have Ny354 := D hy354; clear hy354; have H' := D H; clear H
               try go_wp2
               have n_ := an_ (Kd.R_drew Ja.out) <| an_ (blk_drew Ka.out) <| D (below_drew1 HB.out)
               clear Ja Ka HB;obtain ⟨Ja,Ka,HB⟩:=n_;refine start_ (n:=15) (S:=fun w'=>True) (ds:=[]) (bz 15 0) (by kernel_rfl) rfl (by kernel_rfl) trivial (fun hHeld=>?_);refine with_tabW spec_HeapOrder.tab8 spec_HeapOrder.bits8 (fun HT_ HW_=>?_);generalize wr.drew=w51 at Ja Ka HB hHeld ⊢;refine pb_ 0 ?_;refine pb_ 1 ?_;refine pb_ 2 ?_;refine ob_ 3 ?_;refine ob_ 4 ?_;refine ob_ 5 ?_;refine ob_ 6 ?_;refine ob_ 7 ?_;refine ob_ 8 ?_;refine ob_ 9 ?_;refine ob_ 10 ?_;refine ob_ 11 ?_;refine ob_ 12 ?_;refine ob_ 13 ?_;refine pb_ 14 ?_;refine done_ (done_of HT_.out (by kernel_rfl)) ?_
               try go_wp2
               have n_ := an_ (Kd.R_drew Ja.out) <| an_ (blk_drew Ka.out) <| D (below_drew1 HB.out)
               clear Ja Ka HB;obtain ⟨Ja,Ka,HB⟩:=n_;have p333:0≤(x4_1:Int):=od_ Z22;have q333:x4_1 < (l0_0.length:Int):=od_ Z22;obtain ⟨ad333,e333,hx333_0,hx333_1⟩:=at_T32 HR0_0.out x4_1 p333 q333;have hw333_1:=hx333_1;have hw333_0:=hx333_0;cases e333;replace hx333_0:=rc_ HB.out hx333_0;replace hx333_1:=rc_ HB.out hx333_1;replace p333:=eq_true p333;replace q333:=eq_true q333;have q53:(x5_2:Int)≤((x3_1.length:Int):Int):=od_ Z22;obtain ⟨i053,hi053,_,hsz53,_⟩:=info_parts info32;have hroom53:x3_1.length≤Ma:=(Kd.R_reads' Ja.out).2.1;have hC53:Kd.C k32 _ Oa x3_1.length x3_1:=(Kd.R_reads' Ja.out).2.2;have q053:(0:Int)≤(x5_2:Int):=od_ Z22;have hcut53:=cut_from (P:=Try.prog) 24 32 .i64 Try.underlying24 hi053 2 hsz53 Oa x3_1.length Ma x5_2 q053 q53;have hr53:=Kd.C_drop (m:=(x5_2:Int).toNat) (c:=Ma) hC53 (by omega) hroom53;obtain ⟨A53,hA53⟩:∃ A1,A1=(if Ma=(x5_2:Int).toNat then Oa else (Oa:Option Addr).map (·.add ((x5_2:Int).toNat * 2))):=⟨_,rfl⟩;obtain ⟨c53,hc53⟩:∃ c1,c1=Ma - (x5_2:Int).toNat:=⟨_,rfl⟩;have hy53:y337.length=x3_1.length - (x5_2:Int).toNat:=(by rw [Ny337.out,List.length_drop] <;> omega);rw [show (x3_1).drop (x5_2:Int).toNat=y337 from Ny337.out.symm] at hr53;replace hr53:Kd.C k32 _ A53 y337.length y337:=(by rw [hA53];exact hr53);rw [← hy53,← hA53,← hc53] at hcut53;have HR340:=D hr53;have HC340:=D (show y337.length≤c53 from by rw [hy53,hc53];exact Nat.sub_le_sub_right hroom53 _);clear hr53 hC53 hroom53 hi053 hsz53 hc53;have KY53:=D hy53;have KA53:=D hA53;clear hy53 hA53;have KL53:=D (show (x5_2:Int).toNat≤x3_1.length from by omega);replace q53:=eq_true q53;refine start_ (n:=11) (S:=fun w'=>w'.cell? ⟨Jb,0,none⟩=some (Y (some ad333) l0_0.length c0_0)∧w'.cell? (ad333.add ((x4_1).toNat * 2))=some (I L ((rd_T32 l0_0 x4_1).f0))∧w'.cell? ⟨(ad333.add ((x4_1).toNat * 2)).block,(ad333.add ((x4_1).toNat * 2)).off + 1,none⟩=some (I L ((rd_T32 l0_0 x4_1).f1))) (ds:=[]) (bz 11 0) (by kernel_rfl) rfl (by kernel_rfl) ⟨bc_ Ka.out 0,(rc_ HB.out hw333_0:),(rc_ HB.out hw333_1:)⟩ (fun hHeld=>?_);refine with_tabW spec_HeapOrder.tab10 spec_HeapOrder.bits10 (fun HT_ HW_=>?_);generalize w51.drew=w52 at Ja Ka HB HR340 hx333_0 hx333_1 hHeld ⊢;refine pb_ 0 ?_;refine pb_ 2 ?_;refine pb_ 6 ?_;refine pb_ 7 ?_;refine pb_ 8 ?_;refine tb_ 1 rfl rfl hHeld Z21 ?_;refine pb_ 3 ?_;refine tb_ 4 rfl rfl hHeld Z21 ?_;refine oa_ 5 43 11 511 HT_ (fun K hK=>?_);refine Kd.R_lit_step k32 _ 32 ?hg (N:=43) ?hd (xs:=([(⟨(rd_T32 l0_0 x4_1).f0,(rd_T32 l0_0 x4_1).f1⟩:S32)]:List (S32))) (inner:=[I L ((rd_T32 l0_0 x4_1).f0),I L ((rd_T32 l0_0 x4_1).f1)]) (ok:=fun _=>True) (okp:=fun _=>True) ?hr ?hp (fun _ hk=>hk) trivial (Below.refl _ _) (Nat.le_refl _) (by simp) ?_;(case hd=>rfl);(case hg=>rfl);(case hr=>first|(go_simp;done)|(go_simp;rfl));(case hp=>exact (Reps.c2 (show Kd.M k32 _ _ _ (⟨(rd_T32 l0_0 x4_1).f0,(rd_T32 l0_0 x4_1).f1⟩:S32) [I L ((rd_T32 l0_0 x4_1).f0),I L ((rd_T32 l0_0 x4_1).f1)] from (k32_mkM _ _ _ (⟨(rd_T32 l0_0 x4_1).f0,(rd_T32 l0_0 x4_1).f1⟩:S32) )) (Reps.none _ _)))
               intro Kf w54 ho55 hb hg_ hnew_; clear hg_ hnew_; (first | rw [← Ny334.out] at ho55 | (simp only [Int.reduceToNat] at ho55; rw [← Ny334.out] at ho55))
               have n_:=an_ (Kd.R_elder' (pR_ Ja.out) (Kd.R_base ho55) hb)<|an_ (Kd.R_lower (nw_ ho55 (pR_ Ja.out)) (below_size (pB_ HB.out)))<|an_ (blk_below (pk_ Ka.out) hb)<|an_ (Kd.C_below Z5 hb)<|D (below_step (pB_ HB.out) hb)
               clear Ja Ka HR340 HB;obtain ⟨Ja,Md,Ka,HR340,HB⟩:=n_;clear hb ho55;refine hK.out _ _ ⟨bc_ Ka.out 0,(rc_ HB.out hw333_0:),(rc_ HB.out hw333_1:)⟩ (fun hHeld=>?_);clear hK K;refine nx_ (N:=some 43) ?_;refine oa_ 9 47 11 1023 HT_ (fun K hK=>?_);refine Kd.R_append_rows_step k32 (w0:=w) w.heap.size (by rfl) (.tmp 43) (.tmp 46) 24 32 (.agg #[(I L 0),(I L 0)]) 16 rfl Try.underlying24 info32 rfl (by decide) (by omega) Kf y334 y337 _ _ _ (fun k_=>some k_≠(Y Oa x3_1.length Ma:Value).ownBlock) (fun _=>False) rfl rfl ?aO ?aR (fun _ _ h=>h) (fun _ h=>h.elim) ?aF ?aB ?aS ?aL ?_;(case aR=>repeat (first|exact Z5|(with_reducible refine Kd.C_alloc ?_ _)|(with_reducible refine Kd.C_drewN ?_ _)|(with_reducible refine Kd.C_drew ?_)));(case aB=>exact (pB_ HB.out));(case aF=>exact (fun k_ hk=>Kd.fresh' (Kd.R_lt (pR_ Ja.out)) k_ hk));(case aO=>exact (pR_ (Kd.R_mono Md.out (fun _ hk=>hk.2))));(case aS=>exact (below_size (pB_ HB.out)));(case aL=>have:=LMc46.out;omega);intro Jc w56 ho hb hg hat;rw [← Ny341.out] at ho
               have n_:=an_ (Kd.R_after (ok:=(fun _=>True)) (pR_ Ja.out) hg hat)<|an_ (blk_grown (pk_ Ka.out) hg (Kd.R_ne Md.out Ka.out (by decide)))<|an_ (hb)<|an_ ((show Kd.C k32 w56 A53 y337.length y337 from by rw [Ny337.out,KA53.out];exact Kd.C_drop (m:=(x5_2:Int).toNat) (c:=Ma) ((Kd.R_reads' (Kd.R_after (ok:=(fun _=>True)) (pR_ Ja.out) hg hat)).2.2) KL53.out ((Kd.R_reads' (Kd.R_after (ok:=(fun _=>True)) (pR_ Ja.out) hg hat)).2.1)))<|D (ho)
               clear Ja Ka HB HR340 Md;obtain ⟨Ja,Ka,HB,HR340,Xa⟩:=n_;clear ho hb hg hat;refine hK.out _ _ ⟨bc_ Ka.out 0,(rc_ HB.out hw333_0:),(rc_ HB.out hw333_1:)⟩ (fun hHeld=>?_);clear hK K;refine nx_ (N:=some 47) ?_;refine pb_ 10 ?_;refine done_ (done_of HT_.out (by kernel_rfl)) ?_
               try go_wp2_with (first|((with_reducible refine gate_dst (N:=48) rfl ?_);refine Kd.R_lit k32 _ 32 ?hg (N:=48) ?hd (xs:=([]:List (S32))) (inner:=[]) (ok:=fun _=>True) (okp:=fun _=>True) ?hr ?hp (fun _ hk=>hk) trivial (Below.refl _ _) (Nat.le_refl _) (by simp) ?_;(case hd=>rfl);(case hg=>rfl);(case hr=>first|(go_simp;done)|(go_simp;rfl));(case hp=>exact (Reps.none _ _));intro Mf w57 ho58 hb hg_ hnew_;clear hg_ hnew_;(first|rw [← Ny344.out] at ho58|(simp only [Int.reduceToNat] at ho58;rw [← Ny344.out] at ho58));have n_:=an_ (Kd.R_elder' (pR_ Ja.out) (Kd.R_base ho58) hb)<|an_ (Kd.R_elder' (pR_ Xa.out) (Kd.R_base ho58) hb)<|an_ (Kd.R_lower (nw_ (nw_ ho58 (pR_ Ja.out)) (pR_ Xa.out)) (below_size (pB_ HB.out)))<|an_ (blk_below (pk_ Ka.out) hb)<|an_ (Kd.C_below Z5 hb)<|D (below_step (pB_ HB.out) hb);clear Ja Xa Ka HR340 HB;obtain ⟨Ja,Xa,Od,Ka,HR340,HB⟩:=n_;clear hb ho58;have q59:(x5_2:Int)≤((x3_1.length:Int):Int):=od_ Z22;obtain ⟨i059,hi059,_,hsz59,_⟩:=info_parts info32;have hroom59:x3_1.length≤Ma:=(Kd.R_reads' Ja.out).2.1;have hC59:Kd.C k32 _ Oa x3_1.length x3_1:=(Kd.R_reads' Ja.out).2.2;have hcut59:=cut_to (P:=Try.prog) 24 32 .i64 Try.underlying24 hi059 Oa x3_1.length Ma x5_2 (od_ Z22) q59 hroom59;have hr59:=Kd.C_take (m:=(x5_2:Int).toNat) hC59 (by omega);have hy59:y347.length=(x5_2:Int).toNat:=(by rw [Ny347.out,List.length_take];omega);rw [← Ny347.out] at hr59;rw [← hy59] at hcut59;have HR350:=D hr59;have HC350:=D (show y347.length≤Ma from by omega);clear hr59 hC59 hroom59 hi059 hsz59;have KY59:=D hy59;clear hy59;have KL59:=D (show (x5_2:Int).toNat≤x3_1.length from by omega);replace q59:=eq_true q59)|((with_reducible refine gate_builtin (b:=.append) (xs:=#[.tmp 48,.tmp 51]) rfl ?_);at_builtin;refine Kd.R_append_rows k32 (w0:=w) w.heap.size rfl (.tmp 48) (.tmp 51) 24 32 (.agg #[(I L 0),(I L 0)]) 16 rfl Try.underlying24 info32 rfl (by decide) (by omega) Mf y344 y347 _ _ _ (fun k_=>some k_≠(Y Oa x3_1.length Ma:Value).ownBlock∧some k_≠(Jc:Value).ownBlock) (fun _=>False) rfl rfl ?aO ?aR (fun _ _ h=>h) (fun _ h=>h.elim) ?aF ?aB ?aS ?aL ?_;(case aR=>repeat (first|exact (by repeat (first|(with_reducible exact HR350.out)|(with_reducible refine Kd.C_alloc ?_ _)|(with_reducible refine Kd.C_drewN ?_ _)|(with_reducible refine Kd.C_drew ?_)|exact HR350.out))|(with_reducible refine Kd.C_alloc ?_ _)|(with_reducible refine Kd.C_drewN ?_ _)|(with_reducible refine Kd.C_drew ?_)));(case aB=>exact (pB_ HB.out));(case aF=>exact (fun k_ hk=>⟨Kd.fresh' (Kd.R_lt (pR_ Ja.out)) k_ hk,Kd.fresh' (Kd.R_lt (pR_ Xa.out)) k_ hk⟩));(case aO=>exact (pR_ (Kd.R_mono Od.out (fun _ hk=>⟨hk.1.2,hk.2⟩))));(case aS=>exact (below_size (pB_ HB.out)));(case aL=>have:=LMc49.out;omega);intro Of w60 ho hb hg hat;rw [← Ny351.out] at ho;have n_:=an_ (Kd.R_after (ok:=(fun k_=>some k_≠(Jc:Value).ownBlock)) (pR_ (Kd.R_mono Ja.out (fun _ hk=>⟨hk.1.2,hk.2⟩))) hg hat)<|an_ (blk_grown (pk_ Ka.out) hg (Kd.R_ne Od.out Ka.out (by decide)))<|an_ (Kd.R_after (ok:=(fun k_=>some k_≠(Y Oa x3_1.length Ma:Value).ownBlock)) (pR_ Xa.out) hg hat)<|an_ (hb)<|an_ ((show Kd.C k32 w60 A53 y337.length y337 from by rw [Ny337.out,KA53.out];exact Kd.C_drop (m:=(x5_2:Int).toNat) (c:=Ma) ((Kd.R_reads' (Kd.R_after (ok:=(fun k_=>some k_≠(Jc:Value).ownBlock)) (pR_ (Kd.R_mono Ja.out (fun _ hk=>⟨hk.1.2,hk.2⟩))) hg hat)).2.2) KL53.out ((Kd.R_reads' (Kd.R_after (ok:=(fun k_=>some k_≠(Jc:Value).ownBlock)) (pR_ (Kd.R_mono Ja.out (fun _ hk=>⟨hk.1.2,hk.2⟩))) hg hat)).2.1)))<|an_ ((show Kd.C k32 w60 Oa y347.length y347 from by rw [Ny347.out];exact Kd.C_take (m:=(x5_2:Int).toNat) ((Kd.R_reads' (Kd.R_after (ok:=(fun k_=>some k_≠(Jc:Value).ownBlock)) (pR_ (Kd.R_mono Ja.out (fun _ hk=>⟨hk.1.2,hk.2⟩))) hg hat)).2.2) KL59.out))<|D (ho);clear Ja Ka Xa HB HR340 HR350 Od;obtain ⟨Ja,Ka,Xa,HB,HR340,HR350,Ud⟩:=n_;clear ho hb hg hat;obtain ⟨Kc,Mc,eo62⟩:=Kd.R_slice Xa.out;subst eo62)|((with_reducible refine gate_builtin (b:=.append) (xs:=#[.tmp 52,.tmp 53]) rfl ?_);at_builtin;refine Kd.R_append_rows k32 (w0:=w) w.heap.size rfl (.tmp 52) (.tmp 53) 24 32 (.agg #[(I L 0),(I L 0)]) 16 rfl Try.underlying24 info32 rfl (by decide) (by omega) Of y351 y341 _ _ _ (fun k_=>some k_≠(Y Oa x3_1.length Ma:Value).ownBlock∧some k_≠(Y Kc y341.length Mc:Value).ownBlock) (fun _=>False) rfl rfl ?aO ?aR (fun _ _ h=>h) (fun _ h=>h.elim) ?aF ?aB ?aS ?aL ?_;(case aR=>exact pC_ ((Kd.R_reads' Xa.out).2.2));(case aB=>exact (pB_ HB.out));(case aF=>exact (fun k_ hk=>⟨Kd.fresh' (Kd.R_lt (pR_ Ja.out)) k_ hk,Kd.fresh' (Kd.R_lt (pR_ Xa.out)) k_ hk⟩));(case aO=>exact (pR_ Ud.out));(case aS=>exact (below_size (pB_ HB.out)));(case aL=>have:=LMc50.out;omega);intro Og w61 ho hb hg hat;rw [← Ny354.out] at ho;have n_:=an_ (Kd.R_after (ok:=(fun k_=>some k_≠(Y Kc y341.length Mc:Value).ownBlock)) (pR_ Ja.out) hg hat)<|an_ (blk_grown (pk_ Ka.out) hg (Kd.R_ne Ud.out Ka.out (by decide)))<|an_ (Kd.R_after (ok:=(fun k_=>some k_≠(Y Oa x3_1.length Ma:Value).ownBlock)) (pR_ Xa.out) hg hat)<|an_ (hb)<|an_ ((show Kd.C k32 w61 A53 y337.length y337 from by rw [Ny337.out,KA53.out];exact Kd.C_drop (m:=(x5_2:Int).toNat) (c:=Ma) ((Kd.R_reads' (Kd.R_after (ok:=(fun k_=>some k_≠(Y Kc y341.length Mc:Value).ownBlock)) (pR_ Ja.out) hg hat)).2.2) KL53.out ((Kd.R_reads' (Kd.R_after (ok:=(fun k_=>some k_≠(Y Kc y341.length Mc:Value).ownBlock)) (pR_ Ja.out) hg hat)).2.1)))<|an_ ((show Kd.C k32 w61 Oa y347.length y347 from by rw [Ny347.out];exact Kd.C_take (m:=(x5_2:Int).toNat) ((Kd.R_reads' (Kd.R_after (ok:=(fun k_=>some k_≠(Y Kc y341.length Mc:Value).ownBlock)) (pR_ Ja.out) hg hat)).2.2) KL59.out))<|D (ho);clear Ja Ka Xa HB HR340 HR350 Ud;obtain ⟨Ja,Ka,Xa,HB,HR340,HR350,Uf⟩:=n_;clear ho hb hg hat))
               go_roundg k2
               case measure => have := HK1.out; have := HK2.out; omega
               case rel => exact ⟨(y354), (wrap64 (x4_1 + 1)), Z23, H', ⟨by have := HK1.out; have := HK2.out; omega⟩, ⟨pR_ (Kd.R_mono Uf.out (fun _ hk => trivial))⟩, ⟨pk_ Ka.out⟩, ⟨pB_ HB.out⟩⟩
              ·rw [if_neg c50] at H
               exact absurd H (by simp)
             ·rw [if_neg c49] at H
              exact absurd H (by simp)
            ·rw [if_neg c46] at H
             exact absurd H (by simp)
           ·rw [if_neg c45] at H
            exact absurd H (by simp)
          ·rw [if_neg c44] at H
           exact absurd H (by simp)
         ·rw [if_neg c43] at H
          exact absurd H (by simp)
        ·rw [if_neg c42] at H
         exact absurd H (by simp)
    ·rw [if_neg c10] at H
     have c10b0:decide (x4_1 < (l0_0.length:Int))=false:=decide_eq_false c10;clear c10;refine rw_ c10b0 ?_;obtain rfl:=Option.some.inj H;have Ug:=cells1 Ka.out
     go_wp2
     go_ret;exact ⟨_,er_,by (with_reducible repeat (first|apply Kd.R_alloc|apply Kd.R_drewN|apply Kd.R_drew));exact Ja.out,pB_ HB.out⟩
 ·replace c9 := Bool.eq_false_iff.mpr c9
  subst c9; rw [if_neg (show ¬ (false = true) by decide)] at H; obtain rfl := Option.some.inj H
  go_wp2
  go_ret;exact ⟨_,er_,by (with_reducible repeat (first|apply Kd.R_alloc|apply Kd.R_drewN|apply Kd.R_drew));exact Mb.out,pB_ HB.out⟩

end Go.Proofs.Ytcindcakncngnaa.PFnHeapSorts
