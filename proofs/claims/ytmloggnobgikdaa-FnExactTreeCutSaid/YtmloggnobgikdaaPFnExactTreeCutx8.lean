-- by a program of this session's, over the kit's words
import Derived.Test.YtmloggnobgikdaaPZFnExactTreeCut
import Derived.Test.YtmloggnobgikdaaPFnExactTreeCutx0
import Derived.Test.YtmloggnobgikdaaPFnExactTreeCutx7
namespace Go.Proofs.Ytmloggnobgikdaa.PFnExactTreeCut
open Go.RowKit Go.Proofs.YtmloggnobgikdaaW.PrintWords Go.Proofs.YtmloggnobgikdaaW.PrintLast Go.Proofs.YtmloggnobgikdaaW.PrintMore Go.Proofs.YtmloggnobgikdaaV Go.Proofs.Ytmloggnobgikdaa.ZFnExactTreeCut
open Go.Value renaming int → I, slice → Y
open Go.IntKind renaming i64 → L
open Aside0 renaming mk → D
open Option renaming bind_eq_some_iff → bs_
attribute [local go_sem] max2_int min2_int max_two min_two max_three min_three max_four min_four   -- for this text's walks alone
set_option linter.unusedVariables false
set_option linter.unusedSimpArgs false

/-! ### laws_toKidS: function 36 -/
def laws_toKidS.l0 : Nat → List (S85) → List (S57) → Int → Option ((List (S57)))
 | 0, _, _, _ => none
 | k + 1,x0,x3,x4=>if x4 < (x0.length:Int) then (if 0≤x4 then ((laws_toKid.f ((rd_T85 x0 x4).f0) ((rd_T85 x0 x4).f1) ((rd_T85 x0 x4).f2) ((rd_T85 x0 x4).f3.f0) ((rd_T85 x0 x4).f3.f1) ((rd_T85 x0 x4).f3.f2)).bind fun bt246=>(if x4 < (x3.length:Int) then (laws_toKidS.l0 k x0 (x3.set (x4:Int).toNat (⟨bt246.1,bt246.2.1,bt246.2.2.1,(⟨bt246.2.2.2.1,bt246.2.2.2.2.1,bt246.2.2.2.2.2⟩:S31)⟩:S57)) (wrap64 (x4 + 1))) else (none))) else (none)) else (some x3)
def laws_toKidS.f (k : Nat) (l0 : List (S85)) : Option ((List (S57))) := if 0 ≤ (l0.length : Int) then (if ((l0.length : Int) : Int).toNat ≤ 5864062014805 then (laws_toKidS.l0 k l0 (List.replicate ((l0.length : Int) : Int).toNat z57) 0) else (none)) else (none)
set_option maxHeartbeats 8000000 in
set_option maxRecDepth 100000 in
theorem laws_toKidS.calls (k : Nat) (A0 : Option Addr) (c0 : Nat) (l0 : List (S85)) (r : List (S57)) (w : World) (hr0 : Kd.C k85 w A0 l0.length l0) (hc0 : l0.length ≤ c0) (h : laws_toKidS.f k l0 = some r) :
  Calls Try.prog 36 #[Y A0 l0.length c0] w fun e w' => ∃ v0_ : Value, e = .returned (v0_) ∧ Kd.R k57 57 w' w.heap.size (fun _ => True) v0_ r ∧ Below w.heap.size w w' := by
 have hu85 := Try.underlying85
 have hu57 := Try.underlying57
 have HR0 := D hr0
 have HC0 := D hc0
 clear hr0 hc0
 have HB := D (Below.refl w.heap.size w)
 have H:(if 0≤(l0.length:Int) then (if ((l0.length:Int):Int).toNat≤5864062014805 then (laws_toKidS.l0 k l0 (List.replicate ((l0.length:Int):Int).toNat z57) 0) else (none)) else (none))=some r:=h
 clear h
 by_cases c2 : 0 ≤ (l0.length : Int)
 ·rw [if_pos c2] at H
  have c2b0 := eq_true c2; have c2b1 : decide (0 ≤ (l0.length : Int)) = true := decide_eq_true c2; clear c2
  by_cases c3 : ((l0.length : Int) : Int).toNat ≤ 5864062014805
  ·rw [if_pos c3] at H
   have c3b0:=eq_true c3;have c3b1:decide (((l0.length:Int):Int).toNat≤5864062014805)=true:=decide_eq_true c3;clear c3;obtain ⟨y242,hy242⟩:∃ y_:List (S57),y_=(List.replicate ((l0.length:Int):Int).toNat z57):=⟨_,rfl⟩
   replace H:(laws_toKidS.l0 k l0 y242 0)=some r:=by first|(rw [hy242];with_reducible exact H)|(have H2_:=(Option.bind_some _ _).symm.trans H;rw [hy242];with_reducible exact H2_)|(have H2_:=(Option.bind_some _ _).symm.trans H;with_reducible exact H2_)|with_reducible exact H|(rw [hy242];exact H)|exact H
   have Ny242 := D hy242; clear hy242; have H' := D H; clear H; go_enter Try.func36, Try.ntmps36
   go_wp2_with (first|((with_reducible refine gate_dst (N:=7) rfl ?_);refine Kd.R_make k57 _ 57 rfl (N:=7) rfl 32 _ _ rfl (l0.length:Int) rfl rfl Try.underlying32 (.agg #[(I L 0),(I L 0),(.bool false),(I L 0),(I L 0),(I L 0)]) 48 info57 rfl (by decide) (by omega) z57 (ok:=fun _=>True) (okp:=fun _=>True) (k57_mkM _ _ _ z57 ) (fun _ hk=>hk) trivial (od_ Z43) (Nat.le_trans (Nat.mul_le_mul_right _ (od_ Z43:(l0.length:Int).toNat≤5864062014805)) (by omega)) (Below.refl _ _) (Nat.le_refl _) ?_;intro v243 w4 ho5 hb hg_ hnew_;clear hg_ hnew_;(first|rw [← Ny242.out] at ho5|(simp only [Int.reduceToNat] at ho5;rw [← Ny242.out] at ho5));have n_:=an_ (Kd.R_lower ho5 (below_size (pB_ HB.out)))<|D (below_step (pB_ HB.out) hb);clear HB;obtain ⟨HO244,HB⟩:=n_;clear hb ho5))
   go_loopg [4] k (fun kq v4 w'=>∃ (x3_1:List (S57)) (x4_1:Int),v4=I L x4_1∧Aside0 (laws_toKidS.l0 kq l0 x3_1 x4_1=some r)∧Aside0 (kq≤k)∧Aside0 (Kd.R k57 57 w' w.heap.size (fun _=>True) v243 x3_1)∧Aside0 (Below w.heap.size w w'))
   case atStart => exact ⟨(y242), (0), Z44, H', ⟨Nat.le_refl _⟩, ⟨pR_ HO244.out⟩, ⟨pB_ HB.out⟩⟩
   case round =>
    clear H'
    (try clear c2);(try clear c2b0);(try clear c2b1);(try clear p2);(try clear c3);(try clear c3b0);(try clear c3b1)
    obtain ⟨x3_1, x4_1, rfl, HA, HK1, HO_3, HB⟩ := hrel
    cases gk with
    | zero => exact absurd HA.out (by simp [laws_toKidS.l0])
    | succ k1 =>
     have H := HA.out; clear HA; simp only [laws_toKidS.l0] at H
     by_cases c6 : x4_1 < (l0.length : Int)
     ·rw [if_pos c6] at H
      have c6b0 : decide (x4_1 < (l0.length : Int)) = true := decide_eq_true c6; clear c6
      by_cases c7 : 0 ≤ x4_1
      ·rw [if_pos c7] at H
       have c7b0:decide (0≤x4_1)=true:=decide_eq_true c7;clear c7;obtain ⟨⟨t246,t247,t248,t249,t250,t251⟩,A80,H⟩:=bs_.mp H;(try dsimp only at H);have A8:=D A80;clear A80
       by_cases c9 : x4_1 < (x3_1.length : Int)
       ·rw [if_pos c9] at H
        have c9b0:decide (x4_1 < (x3_1.length:Int))=true:=decide_eq_true c9;clear c9;obtain ⟨y252,hy252⟩:∃ y_:List (S57),y_=(x3_1.set (x4_1:Int).toNat (⟨t246,t247,t248,(⟨t249,t250,t251⟩:S31)⟩:S57)):=⟨_,rfl⟩
        replace H:(laws_toKidS.l0 k1 l0 y252 (wrap64 (x4_1 + 1)))=some r:=by first|(rw [hy252];with_reducible exact H)|(have H2_:=(Option.bind_some _ _).symm.trans H;rw [hy252];with_reducible exact H2_)|(have H2_:=(Option.bind_some _ _).symm.trans H;with_reducible exact H2_)|with_reducible exact H|(rw [hy252];exact H)|exact H
        have Ny252:=D hy252;clear hy252;have H':=D H;clear H;have p245:0≤(x4_1:Int):=od_ Z43;have q245:x4_1 < (l0.length:Int):=od_ Z43;obtain ⟨ad245,e245,hx245_0,hx245_1,hx245_2,hx245_3,hx245_4,hx245_5⟩:=at_T85 HR0.out x4_1 p245 q245;cases e245;replace hx245_0:=rc_ HB.out hx245_0;replace hx245_1:=rc_ HB.out hx245_1;replace hx245_2:=rc_ HB.out hx245_2;replace hx245_3:=rc_ HB.out hx245_3;replace hx245_4:=rc_ HB.out hx245_4;replace hx245_5:=rc_ HB.out hx245_5;replace p245:=eq_true p245;replace q245:=eq_true q245
        go_wp2_with (first|((with_reducible refine gate_callee (f:=51) rfl ?_);refine goesL_ (some 20) rfl rfl Try.func51 (by kernel_rfl) rfl #[.agg #[I L ((rd_T85 l0 x4_1).f0),I L ((rd_T85 l0 x4_1).f1),.bool ((rd_T85 l0 x4_1).f2),I L ((rd_T85 l0 x4_1).f3.f0),I L ((rd_T85 l0 x4_1).f3.f1),I L ((rd_T85 l0 x4_1).f3.f2)]] rfl Z12 ?_;(with_reducible refine (laws_toKid.calls ((rd_T85 l0 x4_1).f0) ((rd_T85 l0 x4_1).f1) ((rd_T85 l0 x4_1).f2) ((rd_T85 l0 x4_1).f3.f0) ((rd_T85 l0 x4_1).f3.f1) ((rd_T85 l0 x4_1).f3.f2) t246 t247 t248 t249 t250 t251 _ A8.out).mono ?_);rintro e w11 ⟨rfl,hb⟩;refine ⟨_,rfl,?_⟩;have n_:=an_ (Kd.R_below (pR_ HO_3.out) hb)<|D (below_step (pB_ HB.out) hb);clear HO_3 HB;obtain ⟨HO_3,HB⟩:=n_;(try clear hb);have p10:0≤(x4_1:Int):=od_ Z43;have q10:(x4_1:Int) < ((x3_1.length:Int):Int):=od_ Z43;obtain ⟨go10,co10,eo10,gb10,gl10,cl10,HG10⟩:=Kd.R_form HO_3.out (by omega);(first|cases eo10|(injection eo10 with ea_ en_ ec_;(first|subst ea_|(injection ea_ with ea_;subst ea_));subst ec_;clear en_));have GB10:=D gb10;have GG10:=D HG10;clear gb10 gl10 HG10;obtain ⟨ce10,hcl10,hM10,hcc10,hfr10⟩:=Kd.R_elem HO_3.out z57 (x4_1:Int) p10 q10;obtain rfl:=k57_openM hM10;have hx10_0:w11.cell? ⟨go10,(x4_1:Int).toNat * 6,none⟩=some (I L ((rd_T57 x3_1 x4_1).f0)):=hcc10 0 _ rfl;have hx10_1:w11.cell? ⟨go10,(x4_1:Int).toNat * 6 + 1,none⟩=some (I L ((rd_T57 x3_1 x4_1).f1)):=hcc10 1 _ rfl;have hx10_2:w11.cell? ⟨go10,(x4_1:Int).toNat * 6 + 2,none⟩=some (.bool ((rd_T57 x3_1 x4_1).f2)):=hcc10 2 _ rfl;have hx10_3:w11.cell? ⟨go10,(x4_1:Int).toNat * 6 + 3,none⟩=some (I L ((rd_T57 x3_1 x4_1).f3.f0)):=hcc10 3 _ rfl;have hx10_4:w11.cell? ⟨go10,(x4_1:Int).toNat * 6 + 4,none⟩=some (I L ((rd_T57 x3_1 x4_1).f3.f1)):=hcc10 4 _ rfl;have hx10_5:w11.cell? ⟨go10,(x4_1:Int).toNat * 6 + 5,none⟩=some (I L ((rd_T57 x3_1 x4_1).f3.f2)):=hcc10 5 _ rfl;have hf10_0:w11.frozen? ⟨go10,(x4_1:Int).toNat * 6,none⟩=false:=hfr10 0;have hf10_1:w11.frozen? ⟨go10,(x4_1:Int).toNat * 6 + 1,none⟩=false:=hfr10 1;have hf10_2:w11.frozen? ⟨go10,(x4_1:Int).toNat * 6 + 2,none⟩=false:=hfr10 2;have hf10_3:w11.frozen? ⟨go10,(x4_1:Int).toNat * 6 + 3,none⟩=false:=hfr10 3;have hf10_4:w11.frozen? ⟨go10,(x4_1:Int).toNat * 6 + 4,none⟩=false:=hfr10 4;have hf10_5:w11.frozen? ⟨go10,(x4_1:Int).toNat * 6 + 5,none⟩=false:=hfr10 5;clear hcl10 hcc10 hfr10 hM10;replace p10:=eq_true p10;replace q10:=eq_true q10;have HX12:=D (show Kd.R k57 57 w11 w.heap.size (fun _=>True) (Y (some ⟨go10,0,none⟩) x3_1.length co10) x3_1 from (pR_ HO_3.out));obtain ⟨ce12,hcl12,hM12,hcc12,hfr12⟩:=Kd.R_elem HX12.out z57 (x4_1:Int) (od_ Z43) (by have h_:(x4_1:Int) < ((x3_1.length:Int):Int):=od_ Z43;first|exact h_|(have e_:=(Kd.R_reads' HO_3.out).1;omega)|simpa using h_);obtain rfl:=k57_openM hM12;have HP12:=Kd.R_seg HX12.out (x4_1:Int) (od_ Z43) (by have h_:(x4_1:Int) < ((x3_1.length:Int):Int):=od_ Z43;first|exact h_|(have e_:=(Kd.R_reads' HO_3.out).1;omega)|simpa using h_) (seg:=[I L t246,I L t247,.bool t248,I L t249,I L t250,I L t251]) (j:=0) hcl12 hcc12 (show 6≤6 from by decide) (x':=(⟨t246,t247,t248,(⟨t249,t250,t251⟩:S31)⟩:S57)) (k57_mkM _ _ _ (⟨t246,t247,t248,(⟨t249,t250,t251⟩:S31)⟩:S57) ) (fun _ hk=>hk);have hx12_0:=hcc12 0 _ rfl;(try simp only [show (k57).sz=6 from rfl,Nat.mul_one,Nat.add_zero] at hx12_0);have hf12_0:=hfr12 0;(try simp only [show (k57).sz=6 from rfl,Nat.mul_one,Nat.add_zero] at hf12_0);have hx12_1:=hcc12 1 _ rfl;(try simp only [show (k57).sz=6 from rfl,Nat.mul_one,Nat.add_zero] at hx12_1);have hf12_1:=hfr12 1;(try simp only [show (k57).sz=6 from rfl,Nat.mul_one,Nat.add_zero] at hf12_1);have hx12_2:=hcc12 2 _ rfl;(try simp only [show (k57).sz=6 from rfl,Nat.mul_one,Nat.add_zero] at hx12_2);have hf12_2:=hfr12 2;(try simp only [show (k57).sz=6 from rfl,Nat.mul_one,Nat.add_zero] at hf12_2);have hx12_3:=hcc12 3 _ rfl;(try simp only [show (k57).sz=6 from rfl,Nat.mul_one,Nat.add_zero] at hx12_3);have hf12_3:=hfr12 3;(try simp only [show (k57).sz=6 from rfl,Nat.mul_one,Nat.add_zero] at hf12_3);have hx12_4:=hcc12 4 _ rfl;(try simp only [show (k57).sz=6 from rfl,Nat.mul_one,Nat.add_zero] at hx12_4);have hf12_4:=hfr12 4;(try simp only [show (k57).sz=6 from rfl,Nat.mul_one,Nat.add_zero] at hf12_4);have hx12_5:=hcc12 5 _ rfl;(try simp only [show (k57).sz=6 from rfl,Nat.mul_one,Nat.add_zero] at hx12_5);have hf12_5:=hfr12 5;(try simp only [show (k57).sz=6 from rfl,Nat.mul_one,Nat.add_zero] at hf12_5);clear hcl12 hcc12 hfr12 hM12)|((with_reducible refine gate_store (t:=57) (p:=21) rfl ?_);refine store_event (t:=57) (p:=21) (v:=?vo_w13) (w1:=((((((w11.setCell ⟨go10,(x4_1:Int).toNat * 6,none⟩ (I L t246)).setCell ⟨go10,(x4_1:Int).toNat * 6 + 1,none⟩ (I L t247)).setCell ⟨go10,(x4_1:Int).toNat * 6 + 2,none⟩ (.bool t248)).setCell ⟨go10,(x4_1:Int).toNat * 6 + 3,none⟩ (I L t249)).setCell ⟨go10,(x4_1:Int).toNat * 6 + 4,none⟩ (I L t250)).setCell ⟨go10,(x4_1:Int).toNat * 6 + 5,none⟩ (I L t251))) ?hg ?ho ?hn ?hr ?_;(case ho=>rfl);(case hg=>rfl);(case hn=>rfl);(case hr=>first|(go_simp;done)|(go_simp;rfl));intro w13 hw;have hg:w11.grownBy w13 (some go10):=Z45;have hp_:Kd.R k57 57 w13 w.heap.size (fun _=>True) (Y (some ⟨go10,0,none⟩) x3_1.length co10) y252:=(by rw [hw,Ny252.out];exact HP12.1);clear HP12;have n_:=an_ (hp_)<|D (by rw [hw];exact below_set (below_set (below_set (below_set (below_set (below_set (HB.out) GB10.out) GB10.out) GB10.out) GB10.out) GB10.out) GB10.out:Below w.heap.size w w13);clear HO_3 HB;obtain ⟨HO_3,HB⟩:=n_;clear hg hw hp_))
        go_roundg k1
        case measure => have := HK1.out; omega
        case rel => exact ⟨(y252), (wrap64 (x4_1 + 1)), Z44, H', ⟨by have := HK1.out; omega⟩, ⟨pR_ HO_3.out⟩, ⟨pB_ HB.out⟩⟩
       ·rw [if_neg c9] at H
        exact absurd H (by simp)
      ·rw [if_neg c7] at H
       exact absurd H (by simp)
     ·rw [if_neg c6] at H
      have c6b0 : decide (x4_1 < (l0.length : Int)) = false := decide_eq_false c6; clear c6; obtain rfl := Option.some.inj H
      go_wp2
      go_ret;exact ⟨_,er_,by (with_reducible repeat (first|apply Kd.R_alloc|apply Kd.R_drewN|apply Kd.R_drew));exact HO_3.out,pB_ HB.out⟩
  ·rw [if_neg c3] at H
   exact absurd H (by simp)
 ·rw [if_neg c2] at H
  exact absurd H (by simp)

/-! ### laws_toFair: function 17 -/
def laws_toFair.f (k : Nat) (a0_0 a0_1 a0_2 a0_3 : Int) (l0_4 : List (S85)) : Option (Int × Int × Int × Int × (List (S57))) := (laws_toVec.f a0_1 a0_2 a0_3).bind fun bt256 => ((laws_toKidS.f k l0_4).bind fun t259 => (some (a0_0, bt256.1, bt256.2.1, bt256.2.2, t259)))
set_option maxHeartbeats 8000000 in
set_option maxRecDepth 100000 in
theorem laws_toFair.calls (k : Nat) (a0_0 a0_1 a0_2 a0_3 : Int) (A0_4 : Option Addr) (c0_4 : Nat) (l0_4 : List (S85)) (r1 r2 r3 r4 : Int) (r5 : List (S57)) (w : World) (hr0_4 : Kd.C k85 w A0_4 l0_4.length l0_4) (hc0_4 : l0_4.length ≤ c0_4) (h : laws_toFair.f k a0_0 a0_1 a0_2 a0_3 l0_4 = some (r1, r2, r3, r4, r5)) :
  Calls Try.prog 17 #[.agg #[I L a0_0,I L a0_1,I L a0_2,I L a0_3,Y A0_4 l0_4.length c0_4]] w fun e w'=>∃ v4_:Value,e=.returned (.agg #[I L r1,I L r2,I L r3,I L r4,v4_])∧Kd.R k57 57 w' w.heap.size (fun _=>True) v4_ r5∧Below w.heap.size w w':=by
 have hu26 := Try.underlying26
 have hu34 := Try.underlying34
 have hu23 := Try.underlying23
 have hu31 := Try.underlying31
 have HR0_4 := D hr0_4
 have HC0_4 := D hc0_4
 clear hr0_4 hc0_4
 have HB := D (Below.refl w.heap.size w)
 have H : ((laws_toVec.f a0_1 a0_2 a0_3).bind fun bt256 => ((laws_toKidS.f k l0_4).bind fun t259 => (some (a0_0, bt256.1, bt256.2.1, bt256.2.2, t259)))) = some (r1, r2, r3, r4, r5) := h
 clear h
 obtain ⟨⟨t256, t257, t258⟩, A20, H⟩ := bs_.mp H
 (try dsimp only at H)
 have A2 := D A20
 clear A20
 obtain ⟨t259, A30, H⟩ := bs_.mp H
 (try dsimp only at H)
 have A3 := D A30
 clear A30
 simp only [Option.some.injEq, Prod.mk.injEq] at H
 obtain ⟨rfl, rfl, rfl, rfl, rfl⟩ := H
 go_enter Try.func17, Try.ntmps17
 go_wp2_with (first|((with_reducible refine gate_dst (N:=1) rfl ?_);refine bx_ (N:=1) (cs:=#[I L a0_0,I L a0_1,I L a0_2,I L a0_3,Y A0_4 l0_4.length c0_4]) (t:=26) ?_;intro gb253 hg w4 hbox hb;have n_:=an_ (below_step (pB_ HB.out) hb)<|an_ (hbox)<|an_ (bg_ hg (pB_ HB.out):w.heap.size≤gb253)<|D (bg_ hg (pB_ HB.out):w.heap.size≤gb253);clear HB;obtain ⟨HB,BK253,GW253,GE253⟩:=n_;clear hb hbox hg)|((with_reducible refine gate_dst (N:=2) rfl ?_);refine bx_ (N:=2) (cs:=#[I L 0,I L 0,I L 0,I L 0,Y none 0 0]) (t:=34) ?_;intro gb254 hg w5 hbox hb;have n_:=an_ (blk_below (pk_ BK253.out) hb)<|an_ (below_step (pB_ HB.out) hb)<|an_ (hbox)<|an_ (bg_ hg (pB_ HB.out):w.heap.size≤gb254)<|an_ (bg_ hg (pB_ HB.out):w.heap.size≤gb254)<|an_ (nl_ hg (pk_ BK253.out):gb253≠gb254)<|D (by rw [hg];exact Nat.ne_of_gt (blk_lt (pk_ BK253.out)):gb254≠gb253);clear BK253 HB;obtain ⟨BK253,HB,BK254,GW254,GE254,NB253_254,NB254_253⟩:=n_;clear hb hbox hg)|((with_reducible refine gate_dst (N:=3) rfl ?_);refine bx_ (N:=3) (cs:=#[I L 0,I L 0,I L 0,I L 0,Y none 0 0]) (t:=34) ?_;intro gb255 hg w6 hbox hb;have n_:=an_ (blk_below (pk_ BK253.out) hb)<|an_ (blk_below (pk_ BK254.out) hb)<|an_ (below_step (pB_ HB.out) hb)<|an_ (hbox)<|an_ (bg_ hg (pB_ HB.out):w.heap.size≤gb255)<|an_ (bg_ hg (pB_ HB.out):w.heap.size≤gb255)<|an_ (nl_ hg (pk_ BK253.out):gb253≠gb255)<|an_ (ng_ hg (pk_ BK253.out):gb255≠gb253)<|an_ (nl_ hg (pk_ BK254.out):gb254≠gb255)<|D (by rw [hg];exact Nat.ne_of_gt (blk_lt (pk_ BK254.out)):gb255≠gb254);clear BK253 BK254 HB;obtain ⟨BK253,BK254,HB,BK255,GW255,GE255,NB253_255,NB255_253,NB254_255,NB255_254⟩:=n_;clear hb hbox hg;(try have:=NB253_254.out);(try have:=NB254_253.out);(try have:=NB253_255.out);(try have:=NB255_253.out);have hcz9_0:=cells5 BK253.out;(try have:=NB255_254.out);(try have:=NB254_255.out);have hcz11_0:=cells5 BK255.out)|((with_reducible refine gate_callee (f:=35) rfl ?_);refine goesL_ (some 9) rfl rfl Try.func35 (by kernel_rfl) rfl #[.agg #[I L a0_1,I L a0_2,I L a0_3]] rfl Z12 ?_;(with_reducible refine (laws_toVec.calls a0_1 a0_2 a0_3 t256 t257 t258 _ A2.out).mono ?_);rintro e w12 ⟨rfl,hb⟩;refine ⟨_,rfl,?_⟩;have n_:=an_ (blk_below (g:=gb253) (o:=.cells #[I L a0_0,I L a0_1,I L a0_2,I L a0_3,Y A0_4 l0_4.length c0_4] 26 (0,0)) (by exact pP_ BK253.out) hb)<|an_ (blk_below (g:=gb254) (o:=.cells #[I L 0,I L 0,I L 0,I L 0,Y none 0 0] 34 (0,0)) (by exact pP_ BK254.out) hb)<|an_ (blk_below (g:=gb255) (o:=.cells #[I L a0_0,I L 0,I L 0,I L 0,Y none 0 0] 34 (0,0)) (by exact pP_ BK255.out) hb)<|D (below_step (pB_ HB.out) hb);clear BK253 BK254 BK255 HB;obtain ⟨BK253,BK254,BK255,HB⟩:=n_;(try clear hb);have hcz13_0:=cells5 BK255.out;have hcz14_0:=cells5 BK253.out)|((with_reducible refine gate_callee (f:=36) rfl ?_);refine goesL_ (some 13) rfl rfl Try.func36 (by kernel_rfl) rfl #[Y A0_4 l0_4.length c0_4] rfl Z12 ?_;(with_reducible refine (laws_toKidS.calls k _ _ l0_4 t259 _ ?side1 ?side2 A3.out).mono ?_);(case side1=>exact Kd.C_below HR0_4.out (pB_ HB.out));(case side2=>exact HC0_4.out);rintro e w15 ⟨v260,rfl,ho0,hb⟩;refine ⟨_,rfl,?_⟩;have n_:=an_ (Kd.R_lower ho0 (below_size (pB_ HB.out)))<|an_ (blk_below (g:=gb253) (o:=.cells #[I L a0_0,I L a0_1,I L a0_2,I L a0_3,Y A0_4 l0_4.length c0_4] 26 (0,0)) (by exact pP_ BK253.out) hb)<|an_ (blk_below (g:=gb254) (o:=.cells #[I L 0,I L 0,I L 0,I L 0,Y none 0 0] 34 (0,0)) (by exact pP_ BK254.out) hb)<|an_ (blk_below (g:=gb255) (o:=.cells #[I L a0_0,I L t256,I L t257,I L t258,Y none 0 0] 34 (0,0)) (by exact pP_ BK255.out) hb)<|D (below_step (pB_ HB.out) hb);clear BK253 BK254 BK255 HB;obtain ⟨HO261,BK253,BK254,BK255,HB⟩:=n_;(try clear hb);(try clear ho0);obtain ⟨Ao16,co16,eo16⟩:=Kd.R_slice HO261.out;subst eo16;have hcz17_0:=cells5 BK255.out;have hcz18_0:=cells5 BK254.out))
 refine bodyPost_ret (results_cell_row rfl _ _ gb254 34 #[I L a0_0,I L t256,I L t257,I L t258,Y Ao16 t259.length co16] (0,0) _ rfl (by exact pP_ BK254.out) Try.underlying34 rfl (by kernel_rfl)) rfl ?_
 exact ⟨_,er_,by (with_reducible repeat (first|apply Kd.R_alloc|apply Kd.R_drewN|apply Kd.R_drew));exact Kd.R_mono (fr_ (fr_ (fr_ (fr_ (fr_ (Kd.R_far (p:=⟨gb255,4,none⟩) (Kd.R_types (Kd.R_types HO261.out BK255.out (by decide)) BK254.out (by decide)) (fun _ hk=>hk.1.2) (Y Ao16 t259.length co16)) 0 (I L a0_0)) 1 (I L t256)) 2 (I L t257)) 3 (I L t258)) 4 (Y Ao16 t259.length co16)) (fun _ hk=>trivial),pB_ HB.out⟩

/-! ### laws_toBranch: function 37 -/
def laws_toBranch.f (k : Nat) (a0_0 a0_1 a0_2 a0_3 a0_4 : Int) (l0_5 : List (S85)) : Option (Int × Int × Int × Int × Int × (List (S57))) := (laws_toFair.f k a0_1 a0_2 a0_3 a0_4 l0_5).bind fun bt265 => (some (a0_0, bt265.1, bt265.2.1, bt265.2.2.1, bt265.2.2.2.1, bt265.2.2.2.2))
set_option maxHeartbeats 8000000 in
set_option maxRecDepth 100000 in
theorem laws_toBranch.calls (k : Nat) (a0_0 a0_1 a0_2 a0_3 a0_4 : Int) (A0_5 : Option Addr) (c0_5 : Nat) (l0_5 : List (S85)) (r1 r2 r3 r4 r5 : Int) (r6 : List (S57)) (w : World) (hr0_5 : Kd.C k85 w A0_5 l0_5.length l0_5) (hc0_5 : l0_5.length ≤ c0_5) (h : laws_toBranch.f k a0_0 a0_1 a0_2 a0_3 a0_4 l0_5 = some (r1, r2, r3, r4, r5, r6)) :
  Calls Try.prog 37 #[.agg #[I L a0_0,I L a0_1,I L a0_2,I L a0_3,I L a0_4,Y A0_5 l0_5.length c0_5]] w fun e w'=>∃ v5_:Value,e=.returned (.agg #[I L r1,I L r2,I L r3,I L r4,I L r5,v5_])∧Kd.R k57 57 w' w.heap.size (fun _=>True) v5_ r6∧Below w.heap.size w w':=by
 have hu66 := Try.underlying66
 have hu50 := Try.underlying50
 have hu26 := Try.underlying26
 have hu34 := Try.underlying34
 have HR0_5 := D hr0_5
 have HC0_5 := D hc0_5
 clear hr0_5 hc0_5
 have HB := D (Below.refl w.heap.size w)
 have H : ((laws_toFair.f k a0_1 a0_2 a0_3 a0_4 l0_5).bind fun bt265 => (some (a0_0, bt265.1, bt265.2.1, bt265.2.2.1, bt265.2.2.2.1, bt265.2.2.2.2))) = some (r1, r2, r3, r4, r5, r6) := h
 clear h
 obtain ⟨⟨t265, t266, t267, t268, t269⟩, A20, H⟩ := bs_.mp H
 (try dsimp only at H)
 have A2 := D A20
 clear A20
 simp only [Option.some.injEq, Prod.mk.injEq] at H
 obtain ⟨rfl, rfl, rfl, rfl, rfl, rfl⟩ := H
 go_enter Try.func37, Try.ntmps37
 go_wp2_with (first|((with_reducible refine gate_dst (N:=1) rfl ?_);refine bx_ (N:=1) (cs:=#[I L a0_0,I L a0_1,I L a0_2,I L a0_3,I L a0_4,Y A0_5 l0_5.length c0_5]) (t:=66) ?_;intro gb262 hg w3 hbox hb;have n_:=an_ (below_step (pB_ HB.out) hb)<|an_ (hbox)<|an_ (bg_ hg (pB_ HB.out):w.heap.size≤gb262)<|D (bg_ hg (pB_ HB.out):w.heap.size≤gb262);clear HB;obtain ⟨HB,BK262,GW262,GE262⟩:=n_;clear hb hbox hg)|((with_reducible refine gate_dst (N:=2) rfl ?_);refine bx_ (N:=2) (cs:=#[I L 0,I L 0,I L 0,I L 0,I L 0,Y none 0 0]) (t:=50) ?_;intro gb263 hg w4 hbox hb;have n_:=an_ (blk_below (pk_ BK262.out) hb)<|an_ (below_step (pB_ HB.out) hb)<|an_ (hbox)<|an_ (bg_ hg (pB_ HB.out):w.heap.size≤gb263)<|an_ (bg_ hg (pB_ HB.out):w.heap.size≤gb263)<|an_ (nl_ hg (pk_ BK262.out):gb262≠gb263)<|D (by rw [hg];exact Nat.ne_of_gt (blk_lt (pk_ BK262.out)):gb263≠gb262);clear BK262 HB;obtain ⟨BK262,HB,BK263,GW263,GE263,NB262_263,NB263_262⟩:=n_;clear hb hbox hg)|((with_reducible refine gate_dst (N:=3) rfl ?_);refine bx_ (N:=3) (cs:=#[I L 0,I L 0,I L 0,I L 0,I L 0,Y none 0 0]) (t:=50) ?_;intro gb264 hg w5 hbox hb;have n_:=an_ (blk_below (pk_ BK262.out) hb)<|an_ (blk_below (pk_ BK263.out) hb)<|an_ (below_step (pB_ HB.out) hb)<|an_ (hbox)<|an_ (bg_ hg (pB_ HB.out):w.heap.size≤gb264)<|an_ (bg_ hg (pB_ HB.out):w.heap.size≤gb264)<|an_ (nl_ hg (pk_ BK262.out):gb262≠gb264)<|an_ (ng_ hg (pk_ BK262.out):gb264≠gb262)<|an_ (nl_ hg (pk_ BK263.out):gb263≠gb264)<|D (by rw [hg];exact Nat.ne_of_gt (blk_lt (pk_ BK263.out)):gb264≠gb263);clear BK262 BK263 HB;obtain ⟨BK262,BK263,HB,BK264,GW264,GE264,NB262_264,NB264_262,NB263_264,NB264_263⟩:=n_;clear hb hbox hg;(try have:=NB262_263.out);(try have:=NB263_262.out);(try have:=NB262_264.out);(try have:=NB264_262.out);have hcz8_0:=cells6 BK262.out;(try have:=NB264_263.out);(try have:=NB263_264.out);have hcz10_0:=cells6 BK264.out)|((with_reducible refine gate_callee (f:=17) rfl ?_);refine goesL_ (some 9) rfl rfl Try.func17 (by kernel_rfl) rfl #[.agg #[I L a0_1,I L a0_2,I L a0_3,I L a0_4,Y A0_5 l0_5.length c0_5]] rfl Z12 ?_;(with_reducible refine (laws_toFair.calls k a0_1 a0_2 a0_3 a0_4 _ _ l0_5 t265 t266 t267 t268 t269 _ ?side1 ?side2 A2.out).mono ?_);(case side1=>exact Kd.C_below HR0_5.out (pB_ HB.out));(case side2=>exact HC0_5.out);rintro e w11 ⟨v270,rfl,ho0,hb⟩;refine ⟨_,rfl,?_⟩;have n_:=an_ (Kd.R_lower ho0 (below_size (pB_ HB.out)))<|an_ (blk_below (g:=gb262) (o:=.cells #[I L a0_0,I L a0_1,I L a0_2,I L a0_3,I L a0_4,Y A0_5 l0_5.length c0_5] 66 (0,0)) (by exact pP_ BK262.out) hb)<|an_ (blk_below (g:=gb263) (o:=.cells #[I L 0,I L 0,I L 0,I L 0,I L 0,Y none 0 0] 50 (0,0)) (by exact pP_ BK263.out) hb)<|an_ (blk_below (g:=gb264) (o:=.cells #[I L a0_0,I L 0,I L 0,I L 0,I L 0,Y none 0 0] 50 (0,0)) (by exact pP_ BK264.out) hb)<|D (below_step (pB_ HB.out) hb);clear BK262 BK263 BK264 HB;obtain ⟨HO271,BK262,BK263,BK264,HB⟩:=n_;(try clear hb);(try clear ho0);have hcz12_0:=cells6 BK264.out;obtain ⟨Ao13,co13,eo13⟩:=Kd.R_slice HO271.out;subst eo13;have hcz14_0:=cells6 BK263.out))
 refine bodyPost_ret (results_cell_row rfl _ _ gb263 50 #[I L a0_0,I L t265,I L t266,I L t267,I L t268,Y Ao13 t269.length co13] (0,0) _ rfl (by exact pP_ BK263.out) Try.underlying50 rfl (by kernel_rfl)) rfl ?_
 exact ⟨_,er_,by (with_reducible repeat (first|apply Kd.R_alloc|apply Kd.R_drewN|apply Kd.R_drew));exact Kd.R_mono (fr_ (fr_ (fr_ (fr_ (fr_ (fr_ (Kd.R_far (p:=⟨gb264,5,none⟩) (Kd.R_far (p:=⟨gb264,4,none⟩) (Kd.R_far (p:=⟨gb264,3,none⟩) (Kd.R_far (p:=⟨gb264,2,none⟩) (Kd.R_far (p:=⟨gb264,1,none⟩) (Kd.R_types (Kd.R_types HO271.out BK264.out (by decide)) BK263.out (by decide)) (fun _ hk=>hk.1.2) (I L t265)) (fun _ hk=>hk.1.2) (I L t266)) (fun _ hk=>hk.1.2) (I L t267)) (fun _ hk=>hk.1.2) (I L t268)) (fun _ hk=>hk.1.2) (Y Ao13 t269.length co13)) 0 (I L a0_0)) 1 (I L t265)) 2 (I L t266)) 3 (I L t267)) 4 (I L t268)) 5 (Y Ao13 t269.length co13)) (fun _ hk=>trivial),pB_ HB.out⟩

/-! ### laws_toBranchS: function 18 -/
def laws_toBranchS.l0 : Nat → List (S66) → List (S50) → Int → Option ((List (S50)))
 | 0, _, _, _ => none
 | k + 1,x0,x3,x4=>if x4 < (x0.length:Int) then (if 0≤x4 then ((laws_toBranch.f k ((rd_T66 x0 x4).f0) ((rd_T66 x0 x4).f1.f0) ((rd_T66 x0 x4).f1.f1.f0) ((rd_T66 x0 x4).f1.f1.f1) ((rd_T66 x0 x4).f1.f1.f2) ((rd_T66 x0 x4).f1.f2)).bind fun bt276=>(if x4 < (x3.length:Int) then (laws_toBranchS.l0 k x0 (x3.set (x4:Int).toNat (⟨bt276.1,(⟨bt276.2.1,(⟨bt276.2.2.1,bt276.2.2.2.1,bt276.2.2.2.2.1⟩:S31),bt276.2.2.2.2.2⟩:S34)⟩:S50)) (wrap64 (x4 + 1))) else (none))) else (none)) else (some x3)
def laws_toBranchS.f (k : Nat) (l0 : List (S66)) : Option ((List (S50))) := if 0 ≤ (l0.length : Int) then (if ((l0.length : Int) : Int).toNat ≤ 4398046511104 then (laws_toBranchS.l0 k l0 (List.replicate ((l0.length : Int) : Int).toNat z50) 0) else (none)) else (none)
set_option maxHeartbeats 8000000 in
set_option maxRecDepth 100000 in
theorem laws_toBranchS.calls (k : Nat) (A0 : Option Addr) (c0 : Nat) (l0 : List (S66)) (r : List (S50)) (w : World) (hr0 : Kd.C k66 w A0 l0.length l0) (hc0 : l0.length ≤ c0) (h : laws_toBranchS.f k l0 = some r) :
  Calls Try.prog 18 #[Y A0 l0.length c0] w fun e w' => ∃ v0_ : Value, e = .returned (v0_) ∧ Kd.S k50 50 w' w.heap.size (fun _ => True) v0_ r ∧ Below w.heap.size w w' := by
 have hu66 := Try.underlying66
 have hu50 := Try.underlying50
 have HR0 := D hr0
 have HC0 := D hc0
 clear hr0 hc0
 have HB := D (Below.refl w.heap.size w)
 have H:(if 0≤(l0.length:Int) then (if ((l0.length:Int):Int).toNat≤4398046511104 then (laws_toBranchS.l0 k l0 (List.replicate ((l0.length:Int):Int).toNat z50) 0) else (none)) else (none))=some r:=h
 clear h
 by_cases c2 : 0 ≤ (l0.length : Int)
 ·rw [if_pos c2] at H
  have c2b0 := eq_true c2; have c2b1 : decide (0 ≤ (l0.length : Int)) = true := decide_eq_true c2; clear c2
  by_cases c3 : ((l0.length : Int) : Int).toNat ≤ 4398046511104
  ·rw [if_pos c3] at H
   have c3b0:=eq_true c3;have c3b1:decide (((l0.length:Int):Int).toNat≤4398046511104)=true:=decide_eq_true c3;clear c3;obtain ⟨y272,hy272⟩:∃ y_:List (S50),y_=(List.replicate ((l0.length:Int):Int).toNat z50):=⟨_,rfl⟩
   replace H:(laws_toBranchS.l0 k l0 y272 0)=some r:=by first|(rw [hy272];with_reducible exact H)|(have H2_:=(Option.bind_some _ _).symm.trans H;rw [hy272];with_reducible exact H2_)|(have H2_:=(Option.bind_some _ _).symm.trans H;with_reducible exact H2_)|with_reducible exact H|(rw [hy272];exact H)|exact H
   have Ny272 := D hy272; clear hy272; have H' := D H; clear H; go_enter Try.func18, Try.ntmps18
   go_wp2_with (first|((with_reducible refine gate_dst (N:=7) rfl ?_);refine Kd.S_make k50 _ 50 rfl (N:=7) rfl 35 _ _ rfl (l0.length:Int) rfl rfl Try.underlying35 (.agg #[(I L 0),(I L 0),(I L 0),(I L 0),(I L 0),(Y none 0 0)]) 64 info50 rfl (by decide) (by omega) z50 (ok:=fun _=>True) (okp:=fun _=>True) (k50_mkM _ _ _ z50 (Kd.R_nil _ _ _ _ _)) (fun _ hk=>hk) trivial (od_ Z43) (Nat.le_trans (Nat.mul_le_mul_right _ (od_ Z43:(l0.length:Int).toNat≤4398046511104)) (by omega)) (Below.refl _ _) (Nat.le_refl _) ?_;intro v273 w4 ho5 hb hg_ hnew_;clear hg_ hnew_;(first|rw [← Ny272.out] at ho5|(simp only [Int.reduceToNat] at ho5;rw [← Ny272.out] at ho5));have n_:=an_ (Kd.S_lower ho5 (below_size (pB_ HB.out)))<|D (below_step (pB_ HB.out) hb);clear HB;obtain ⟨HO274,HB⟩:=n_;clear hb ho5))
   go_loopg [4] k (fun kq v4 w'=>∃ (x3_1:List (S50)) (x4_1:Int),v4=I L x4_1∧Aside0 (laws_toBranchS.l0 kq l0 x3_1 x4_1=some r)∧Aside0 (kq≤k)∧Aside0 (Kd.S k50 50 w' w.heap.size (fun _=>True) v273 x3_1)∧Aside0 (Below w.heap.size w w'))
   case atStart => exact ⟨(y272), (0), Z44, H', ⟨Nat.le_refl _⟩, ⟨pS_ HO274.out⟩, ⟨pB_ HB.out⟩⟩
   case round =>
    clear H'
    (try clear c1);(try clear c2);(try clear c2b0);(try clear c2b1);(try clear p2);(try clear c3);(try clear c3b0);(try clear c3b1)
    obtain ⟨x3_1, x4_1, rfl, HA, HK1, HO_3, HB⟩ := hrel
    cases gk with
    | zero => exact absurd HA.out (by simp [laws_toBranchS.l0])
    | succ k1 =>
     have H := HA.out; clear HA; simp only [laws_toBranchS.l0] at H
     by_cases c6 : x4_1 < (l0.length : Int)
     ·rw [if_pos c6] at H
      have c6b0 : decide (x4_1 < (l0.length : Int)) = true := decide_eq_true c6; clear c6
      by_cases c7 : 0 ≤ x4_1
      ·rw [if_pos c7] at H
       have c7b0:decide (0≤x4_1)=true:=decide_eq_true c7;clear c7;obtain ⟨⟨t276,t277,t278,t279,t280,t281⟩,A80,H⟩:=bs_.mp H;(try dsimp only at H);have A8:=D A80;clear A80
       by_cases c9 : x4_1 < (x3_1.length : Int)
       ·rw [if_pos c9] at H
        have c9b0:decide (x4_1 < (x3_1.length:Int))=true:=decide_eq_true c9;clear c9;obtain ⟨y284,hy284⟩:∃ y_:List (S50),y_=(x3_1.set (x4_1:Int).toNat (⟨t276,(⟨t277,(⟨t278,t279,t280⟩:S31),t281⟩:S34)⟩:S50)):=⟨_,rfl⟩
        replace H:(laws_toBranchS.l0 k1 l0 y284 (wrap64 (x4_1 + 1)))=some r:=by first|(rw [hy284];with_reducible exact H)|(have H2_:=(Option.bind_some _ _).symm.trans H;rw [hy284];with_reducible exact H2_)|(have H2_:=(Option.bind_some _ _).symm.trans H;with_reducible exact H2_)|with_reducible exact H|(rw [hy284];exact H)|exact H
        have Ny284:=D hy284;clear hy284;have H':=D H;clear H;have p275:0≤(x4_1:Int):=od_ Z43;have q275:x4_1 < (l0.length:Int):=od_ Z43;obtain ⟨ad275,A275_5,c275_5,e275,hx275_0,hx275_1,hx275_2,hx275_3,hx275_4,hx275_5,hl275_5,hi275_5⟩:=at_T66 HR0.out x4_1 p275 q275;cases e275;replace hx275_0:=rc_ HB.out hx275_0;replace hx275_1:=rc_ HB.out hx275_1;replace hx275_2:=rc_ HB.out hx275_2;replace hx275_3:=rc_ HB.out hx275_3;replace hx275_4:=rc_ HB.out hx275_4;replace hx275_5:=rc_ HB.out hx275_5;have HR275_5:=D hi275_5;have HC275_5:=D hl275_5;clear hi275_5 hl275_5;replace p275:=eq_true p275;replace q275:=eq_true q275
        go_wp2_with (first|((with_reducible refine gate_callee (f:=37) rfl ?_);refine goesL_ (some 20) rfl rfl Try.func37 (by kernel_rfl) rfl #[.agg #[I L ((rd_T66 l0 x4_1).f0),I L ((rd_T66 l0 x4_1).f1.f0),I L ((rd_T66 l0 x4_1).f1.f1.f0),I L ((rd_T66 l0 x4_1).f1.f1.f1),I L ((rd_T66 l0 x4_1).f1.f1.f2),Y A275_5 ((rd_T66 l0 x4_1).f1.f2).length c275_5]] rfl Z12 ?_;(with_reducible refine (laws_toBranch.calls k1 ((rd_T66 l0 x4_1).f0) ((rd_T66 l0 x4_1).f1.f0) ((rd_T66 l0 x4_1).f1.f1.f0) ((rd_T66 l0 x4_1).f1.f1.f1) ((rd_T66 l0 x4_1).f1.f1.f2) _ _ ((rd_T66 l0 x4_1).f1.f2) t276 t277 t278 t279 t280 t281 _ ?side1 ?side2 A8.out).mono ?_);(case side1=>exact pC_ (Kd.C_below HR275_5.out HB.out));(case side2=>exact HC275_5.out);rintro e w11 ⟨v282,rfl,ho0,hb⟩;refine ⟨_,rfl,?_⟩;have n_:=an_ (Kd.S_elder' (pS_ HO_3.out) (Kd.R_base ho0) hb)<|an_ (Kd.R_lower ho0 (below_size (pB_ HB.out)))<|D (below_step (pB_ HB.out) hb);clear HO_3 HB;obtain ⟨HO_3,HO283,HB⟩:=n_;(try clear hb);(try clear ho0);have p10:0≤(x4_1:Int):=od_ Z43;have q10:(x4_1:Int) < ((x3_1.length:Int):Int):=od_ Z43;obtain ⟨go10,co10,eo10,gb10,gl10,cl10,HG10⟩:=Kd.S_form HO_3.out (by omega);(first|cases eo10|(injection eo10 with ea_ en_ ec_;(first|subst ea_|(injection ea_ with ea_;subst ea_));subst ec_;clear en_));have GB10:=D gb10;have GG10:=D HG10;clear gb10 gl10 HG10;obtain ⟨_,ce10,hcl10,hM10,hcc10,hfr10,_,_⟩:=Kd.S_elem HO_3.out z50 (x4_1:Int) p10 q10;obtain ⟨ve10_5,rfl,ge10_5⟩:=k50_openM hM10;have hx10_0:w11.cell? ⟨go10,(x4_1:Int).toNat * 6,none⟩=some (I L ((rd_T50 x3_1 x4_1).f0)):=hcc10 0 _ rfl;have hx10_1:w11.cell? ⟨go10,(x4_1:Int).toNat * 6 + 1,none⟩=some (I L ((rd_T50 x3_1 x4_1).f1.f0)):=hcc10 1 _ rfl;have hx10_2:w11.cell? ⟨go10,(x4_1:Int).toNat * 6 + 2,none⟩=some (I L ((rd_T50 x3_1 x4_1).f1.f1.f0)):=hcc10 2 _ rfl;have hx10_3:w11.cell? ⟨go10,(x4_1:Int).toNat * 6 + 3,none⟩=some (I L ((rd_T50 x3_1 x4_1).f1.f1.f1)):=hcc10 3 _ rfl;have hx10_4:w11.cell? ⟨go10,(x4_1:Int).toNat * 6 + 4,none⟩=some (I L ((rd_T50 x3_1 x4_1).f1.f1.f2)):=hcc10 4 _ rfl;have hx10_5:w11.cell? ⟨go10,(x4_1:Int).toNat * 6 + 5,none⟩=some (ve10_5):=hcc10 5 _ rfl;have hf10_0:w11.frozen? ⟨go10,(x4_1:Int).toNat * 6,none⟩=false:=hfr10 0;have hf10_1:w11.frozen? ⟨go10,(x4_1:Int).toNat * 6 + 1,none⟩=false:=hfr10 1;have hf10_2:w11.frozen? ⟨go10,(x4_1:Int).toNat * 6 + 2,none⟩=false:=hfr10 2;have hf10_3:w11.frozen? ⟨go10,(x4_1:Int).toNat * 6 + 3,none⟩=false:=hfr10 3;have hf10_4:w11.frozen? ⟨go10,(x4_1:Int).toNat * 6 + 4,none⟩=false:=hfr10 4;have hf10_5:w11.frozen? ⟨go10,(x4_1:Int).toNat * 6 + 5,none⟩=false:=hfr10 5;clear hcl10 hcc10 hfr10 hM10;replace p10:=eq_true p10;replace q10:=eq_true q10;have n_:=D (Kd.S_mono (ok':=(fun k_=>some k_≠(v282:Value).ownBlock)) HO_3.out (fun k_ hk=>hk.2));clear HO_3;have HO_3:=n_;clear n_;have HX12:=D (show Kd.S k50 50 w11 w.heap.size (fun k_=>((fun _=>True)) k_∧¬ ((fun k_=>some k_=(v282:Value).ownBlock)) k_) (Y (some ⟨go10,0,none⟩) x3_1.length co10) x3_1 from (pS_ (Kd.S_mono HO_3.out (fun k_ hk=>⟨trivial,fun e_=>hk e_⟩))));obtain ⟨oki12,ce12,hcl12,hM12,hcc12,hfr12,hoki12,hH12⟩:=Kd.S_elem HX12.out z50 (x4_1:Int) (od_ Z43) (by have h_:(x4_1:Int) < ((x3_1.length:Int):Int):=od_ Z43;first|exact h_|(have e_:=(Kd.S_reads' HO_3.out).1;omega)|simpa using h_);obtain ⟨ve12_5,rfl,ge12_5⟩:=k50_openM hM12;have HP12:=Kd.S_seg hH12 (od_ Z43) (by have h_:(x4_1:Int) < ((x3_1.length:Int):Int):=od_ Z43;first|exact h_|(have e_:=(Kd.S_reads' HO_3.out).1;omega)|simpa using h_) (seg:=[I L t276,I L t277,I L t278,I L t279,I L t280,v282]) (j:=0) (show 6≤6 from by decide) (x':=(⟨t276,(⟨t277,(⟨t278,t279,t280⟩:S31),t281⟩:S34)⟩:S50)) (k50_mkM _ _ _ (⟨t276,(⟨t277,(⟨t278,t279,t280⟩:S31),t281⟩:S34)⟩:S50) (Kd.R_mono (Kd.R_tight rfl (Kd.R_mono (ok':=fun k_=>((fun _=>True)) k_∧k_≠go10) (Kd.R_apart' (HO283.out) (Kd.S_typed HO_3.out) (by decide)) (fun k_ hk=>⟨trivial,fun e_=>(hk.2) (by rw [e_];rfl)⟩))) (fun _ h_=>Or.inr (h_)))) (fun _ hk=>hk) (fun k_ hk_=>((Kd.R_mono (ok':=fun k_=>((fun _=>True)) k_∧k_≠go10) (Kd.R_apart' (HO283.out) (Kd.S_typed HO_3.out) (by decide)) (fun k_ hk=>⟨trivial,fun e_=>(hk.2) (by rw [e_];rfl)⟩))).1 k_ hk_.symm);have hx12_0:=hcc12 0 _ rfl;(try simp only [show (k50).sz=6 from rfl,Nat.mul_one,Nat.add_zero] at hx12_0);have hf12_0:=hfr12 0;(try simp only [show (k50).sz=6 from rfl,Nat.mul_one,Nat.add_zero] at hf12_0);have hx12_1:=hcc12 1 _ rfl;(try simp only [show (k50).sz=6 from rfl,Nat.mul_one,Nat.add_zero] at hx12_1);have hf12_1:=hfr12 1;(try simp only [show (k50).sz=6 from rfl,Nat.mul_one,Nat.add_zero] at hf12_1);have hx12_2:=hcc12 2 _ rfl;(try simp only [show (k50).sz=6 from rfl,Nat.mul_one,Nat.add_zero] at hx12_2);have hf12_2:=hfr12 2;(try simp only [show (k50).sz=6 from rfl,Nat.mul_one,Nat.add_zero] at hf12_2);have hx12_3:=hcc12 3 _ rfl;(try simp only [show (k50).sz=6 from rfl,Nat.mul_one,Nat.add_zero] at hx12_3);have hf12_3:=hfr12 3;(try simp only [show (k50).sz=6 from rfl,Nat.mul_one,Nat.add_zero] at hf12_3);have hx12_4:=hcc12 4 _ rfl;(try simp only [show (k50).sz=6 from rfl,Nat.mul_one,Nat.add_zero] at hx12_4);have hf12_4:=hfr12 4;(try simp only [show (k50).sz=6 from rfl,Nat.mul_one,Nat.add_zero] at hf12_4);have hx12_5:=hcc12 5 _ rfl;(try simp only [show (k50).sz=6 from rfl,Nat.mul_one,Nat.add_zero] at hx12_5);have hf12_5:=hfr12 5;(try simp only [show (k50).sz=6 from rfl,Nat.mul_one,Nat.add_zero] at hf12_5);clear hcl12 hcc12 hfr12 hM12 hoki12 hH12)|((with_reducible refine gate_store (t:=50) (p:=21) rfl ?_);refine store_event (t:=50) (p:=21) (v:=?vo_w13) (w1:=((((((w11.setCell ⟨go10,(x4_1:Int).toNat * 6,none⟩ (I L t276)).setCell ⟨go10,(x4_1:Int).toNat * 6 + 1,none⟩ (I L t277)).setCell ⟨go10,(x4_1:Int).toNat * 6 + 2,none⟩ (I L t278)).setCell ⟨go10,(x4_1:Int).toNat * 6 + 3,none⟩ (I L t279)).setCell ⟨go10,(x4_1:Int).toNat * 6 + 4,none⟩ (I L t280)).setCell ⟨go10,(x4_1:Int).toNat * 6 + 5,none⟩ (v282))) ?hg ?ho ?hn ?hr ?_;(case ho=>rfl);(case hg=>rfl);(case hn=>rfl);(case hr=>first|(go_simp;done)|(go_simp;rfl)|(obtain ⟨_,_,e_⟩:=Kd.R_slice HO283.out;subst e_;first|(go_simp;done)|(go_simp;rfl)));intro w13 hw;have hg:w11.grownBy w13 (some go10):=Z45;have hp_:Kd.S k50 50 w13 w.heap.size (fun _=>True) (Y (some ⟨go10,0,none⟩) x3_1.length co10) y284:=(by rw [hw,Ny284.out];exact HP12.1);clear HP12;have n_:=an_ (hp_)<|D (by rw [hw];exact below_set (below_set (below_set (below_set (below_set (below_set (HB.out) GB10.out) GB10.out) GB10.out) GB10.out) GB10.out) GB10.out:Below w.heap.size w w13);clear HO_3 HB HO283;obtain ⟨HO_3,HB⟩:=n_;clear hg hw hp_))
        go_roundg k1
        case measure => have := HK1.out; omega
        case rel => exact ⟨(y284), (wrap64 (x4_1 + 1)), Z44, H', ⟨by have := HK1.out; omega⟩, ⟨pS_ HO_3.out⟩, ⟨pB_ HB.out⟩⟩
       ·rw [if_neg c9] at H
        exact absurd H (by simp)
      ·rw [if_neg c7] at H
       exact absurd H (by simp)
     ·rw [if_neg c6] at H
      have c6b0 : decide (x4_1 < (l0.length : Int)) = false := decide_eq_false c6; clear c6; obtain rfl := Option.some.inj H
      go_wp2
      go_ret;exact ⟨_,er_,by (with_reducible repeat (first|apply Kd.S_alloc|apply Kd.S_drewN|apply Kd.S_drew));exact HO_3.out,pB_ HB.out⟩
  ·rw [if_neg c3] at H
   exact absurd H (by simp)
 ·rw [if_neg c2] at H
  exact absurd H (by simp)

/-! ### laws_toTree: function 6 -/
def laws_toTree.f (k : Nat) (a0_0 a0_1 a0_2 a0_3 : Int) (l0_4 : List (S85)) (l0_5 : List (S66)) : Option (Int × Int × Int × Int × (List (S57)) × (List (S50))) := (laws_toFair.f k a0_0 a0_1 a0_2 a0_3 l0_4).bind fun bt288 => ((laws_toBranchS.f k l0_5).bind fun t295 => (some (bt288.1, bt288.2.1, bt288.2.2.1, bt288.2.2.2.1, bt288.2.2.2.2, t295)))
set_option maxHeartbeats 8000000 in
set_option maxRecDepth 100000 in
theorem laws_toTree.calls (k : Nat) (a0_0 a0_1 a0_2 a0_3 : Int) (A0_4 : Option Addr) (c0_4 : Nat) (l0_4 : List (S85)) (A0_5 : Option Addr) (c0_5 : Nat) (l0_5 : List (S66)) (r1 r2 r3 r4 : Int) (r5 : List (S57)) (r6 : List (S50)) (w : World) (hr0_4 : Kd.C k85 w A0_4 l0_4.length l0_4) (hc0_4 : l0_4.length ≤ c0_4) (hr0_5 : Kd.C k66 w A0_5 l0_5.length l0_5) (hc0_5 : l0_5.length ≤ c0_5) (h : laws_toTree.f k a0_0 a0_1 a0_2 a0_3 l0_4 l0_5 = some (r1, r2, r3, r4, r5, r6)) :
  Calls Try.prog 6 #[.agg #[I L a0_0,I L a0_1,I L a0_2,I L a0_3,Y A0_4 l0_4.length c0_4,Y A0_5 l0_5.length c0_5]] w fun e w'=>∃ v4_ v5_:Value,e=.returned (.agg #[I L r1,I L r2,I L r3,I L r4,v4_,v5_])∧Kd.R k57 57 w' w.heap.size (fun _=>True) v4_ r5∧Kd.S k50 50 w' w.heap.size (fun k_=>some k_≠(v4_:Value).ownBlock) v5_ r6∧Below w.heap.size w w':=by
 have hu29 := Try.underlying29
 have hu37 := Try.underlying37
 have hu26 := Try.underlying26
 have hu34 := Try.underlying34
 have HR0_4 := D hr0_4
 have HC0_4 := D hc0_4
 clear hr0_4 hc0_4
 have HR0_5 := D hr0_5
 have HC0_5 := D hc0_5
 clear hr0_5 hc0_5
 have HB := D (Below.refl w.heap.size w)
 have H:((laws_toFair.f k a0_0 a0_1 a0_2 a0_3 l0_4).bind fun bt288=>((laws_toBranchS.f k l0_5).bind fun t295=>(some (bt288.1,bt288.2.1,bt288.2.2.1,bt288.2.2.2.1,bt288.2.2.2.2,t295))))=some (r1,r2,r3,r4,r5,r6):=h
 clear h
 obtain ⟨⟨t288, t289, t290, t291, t292⟩, A20, H⟩ := bs_.mp H
 (try dsimp only at H)
 have A2 := D A20
 clear A20
 obtain ⟨t295, A30, H⟩ := bs_.mp H
 (try dsimp only at H)
 have A3 := D A30
 clear A30
 simp only [Option.some.injEq, Prod.mk.injEq] at H
 obtain ⟨rfl, rfl, rfl, rfl, rfl, rfl⟩ := H
 go_enter Try.func6, Try.ntmps6
 go_wp2_with (first|((with_reducible refine gate_dst (N:=1) rfl ?_);refine bx_ (N:=1) (cs:=#[I L a0_0,I L a0_1,I L a0_2,I L a0_3,Y A0_4 l0_4.length c0_4,Y A0_5 l0_5.length c0_5]) (t:=29) ?_;intro gb285 hg w4 hbox hb;have n_:=an_ (below_step (pB_ HB.out) hb)<|an_ (hbox)<|an_ (bg_ hg (pB_ HB.out):w.heap.size≤gb285)<|D (bg_ hg (pB_ HB.out):w.heap.size≤gb285);clear HB;obtain ⟨HB,BK285,GW285,GE285⟩:=n_;clear hb hbox hg)|((with_reducible refine gate_dst (N:=2) rfl ?_);refine bx_ (N:=2) (cs:=#[I L 0,I L 0,I L 0,I L 0,Y none 0 0,Y none 0 0]) (t:=37) ?_;intro gb286 hg w5 hbox hb;have n_:=an_ (blk_below (pk_ BK285.out) hb)<|an_ (below_step (pB_ HB.out) hb)<|an_ (hbox)<|an_ (bg_ hg (pB_ HB.out):w.heap.size≤gb286)<|an_ (bg_ hg (pB_ HB.out):w.heap.size≤gb286)<|an_ (nl_ hg (pk_ BK285.out):gb285≠gb286)<|D (by rw [hg];exact Nat.ne_of_gt (blk_lt (pk_ BK285.out)):gb286≠gb285);clear BK285 HB;obtain ⟨BK285,HB,BK286,GW286,GE286,NB285_286,NB286_285⟩:=n_;clear hb hbox hg)|((with_reducible refine gate_dst (N:=3) rfl ?_);refine bx_ (N:=3) (cs:=#[I L 0,I L 0,I L 0,I L 0,Y none 0 0,Y none 0 0]) (t:=37) ?_;intro gb287 hg w6 hbox hb;have n_:=an_ (blk_below (pk_ BK285.out) hb)<|an_ (blk_below (pk_ BK286.out) hb)<|an_ (below_step (pB_ HB.out) hb)<|an_ (hbox)<|an_ (bg_ hg (pB_ HB.out):w.heap.size≤gb287)<|an_ (bg_ hg (pB_ HB.out):w.heap.size≤gb287)<|an_ (nl_ hg (pk_ BK285.out):gb285≠gb287)<|an_ (ng_ hg (pk_ BK285.out):gb287≠gb285)<|an_ (nl_ hg (pk_ BK286.out):gb286≠gb287)<|D (by rw [hg];exact Nat.ne_of_gt (blk_lt (pk_ BK286.out)):gb287≠gb286);clear BK285 BK286 HB;obtain ⟨BK285,BK286,HB,BK287,GW287,GE287,NB285_287,NB287_285,NB286_287,NB287_286⟩:=n_;clear hb hbox hg;(try have:=NB285_286.out);(try have:=NB286_285.out);(try have:=NB285_287.out);(try have:=NB287_285.out);have hcz9_0:=cells6 BK285.out)|((with_reducible refine gate_callee (f:=17) rfl ?_);refine goesL_ (some 6) rfl rfl Try.func17 (by kernel_rfl) rfl #[.agg #[I L a0_0,I L a0_1,I L a0_2,I L a0_3,Y A0_4 l0_4.length c0_4]] rfl Z12 ?_;(with_reducible refine (laws_toFair.calls k a0_0 a0_1 a0_2 a0_3 _ _ l0_4 t288 t289 t290 t291 t292 _ ?side1 ?side2 A2.out).mono ?_);(case side1=>exact pC_ (Kd.C_below HR0_4.out HB.out));(case side2=>exact HC0_4.out);rintro e w10 ⟨v293,rfl,ho0,hb⟩;refine ⟨_,rfl,?_⟩;have n_:=an_ (Kd.R_lower ho0 (below_size (pB_ HB.out)))<|an_ (blk_below (pk_ BK285.out) hb)<|an_ (blk_below (pk_ BK286.out) hb)<|an_ (blk_below (pk_ BK287.out) hb)<|D (below_step (pB_ HB.out) hb);clear BK285 BK286 BK287 HB;obtain ⟨HO294,BK285,BK286,BK287,HB⟩:=n_;(try clear hb);(try clear ho0);(try have:=NB287_286.out);(try have:=NB286_287.out);have hcz12_0:=cells6 BK287.out;obtain ⟨Ao13,co13,eo13⟩:=Kd.R_slice HO294.out;subst eo13;have hcz14_0:=cells6 BK285.out)|((with_reducible refine gate_callee (f:=18) rfl ?_);refine goesL_ (some 10) rfl rfl Try.func18 (by kernel_rfl) rfl #[Y A0_5 l0_5.length c0_5] rfl Z12 ?_;(with_reducible refine (laws_toBranchS.calls k _ _ l0_5 t295 _ ?side1 ?side2 A3.out).mono ?_);(case side1=>exact Kd.C_below HR0_5.out (pB_ HB.out));(case side2=>exact HC0_5.out);rintro e w15 ⟨v296,rfl,ho0,hb⟩;refine ⟨_,rfl,?_⟩;have n_:=an_ (Kd.R_below (rM_ (Kd.R_types HO294.out BK287.out (by decide)) (fun _ h_=>h_.1)) hb)<|an_ (Kd.S_lower (Kd.S_new' ho0 (Kd.R_lt (rM_ (Kd.R_types HO294.out BK287.out (by decide)) (fun _ h_=>h_.1)))) (below_size (pB_ HB.out)))<|an_ (blk_below (g:=gb285) (o:=.cells #[I L a0_0,I L a0_1,I L a0_2,I L a0_3,Y A0_4 l0_4.length c0_4,Y A0_5 l0_5.length c0_5] 29 (0,0)) (by exact pP_ BK285.out) hb)<|an_ (blk_below (g:=gb286) (o:=.cells #[I L 0,I L 0,I L 0,I L 0,Y none 0 0,Y none 0 0] 37 (0,0)) (by exact pP_ BK286.out) hb)<|an_ (blk_below (g:=gb287) (o:=.cells #[I L t288,I L t289,I L t290,I L t291,Y Ao13 t292.length co13,Y none 0 0] 37 (0,0)) (by exact pP_ BK287.out) hb)<|D (below_step (pB_ HB.out) hb);clear HO294 BK285 BK286 BK287 HB;obtain ⟨HO294,HO297,BK285,BK286,BK287,HB⟩:=n_;(try clear hb);(try clear ho0);obtain ⟨Ao16,co16,eo16⟩:=Kd.S_slice HO297.out;subst eo16;have hcz17_0:=cells6 BK287.out;have hcz18_0:=cells6 BK286.out))
 refine bodyPost_ret (results_cell_row rfl _ _ gb286 37 #[I L t288,I L t289,I L t290,I L t291,Y Ao13 t292.length co13,Y Ao16 t295.length co16] (0,0) _ rfl (by exact pP_ BK286.out) Try.underlying37 rfl (by kernel_rfl)) rfl ?_
 exact ⟨_,_,er_,by (with_reducible repeat (first|apply Kd.R_alloc|apply Kd.R_drewN|apply Kd.R_drew));exact Kd.R_mono (fr_ (fr_ (fr_ (fr_ (fr_ (fr_ (Kd.R_far (p:=⟨gb287,5,none⟩) (Kd.R_types (Kd.R_types HO294.out BK287.out (by decide)) BK286.out (by decide)) (fun _ hk=>hk.1.2) (Y Ao16 t295.length co16)) 0 (I L t288)) 1 (I L t289)) 2 (I L t290)) 3 (I L t291)) 4 (Y Ao13 t292.length co13)) 5 (Y Ao16 t295.length co16)) (fun _ hk=>trivial),by (with_reducible repeat (first|apply Kd.S_alloc|apply Kd.S_drewN|apply Kd.S_drew));exact Kd.S_mono (Kd.S_far (p:=⟨gb286,5,none⟩) (Kd.S_far (p:=⟨gb286,4,none⟩) (Kd.S_far (p:=⟨gb286,3,none⟩) (Kd.S_far (p:=⟨gb286,2,none⟩) (Kd.S_far (p:=⟨gb286,1,none⟩) (Kd.S_far (p:=⟨gb286,0,none⟩) (Kd.S_far (p:=⟨gb287,5,none⟩) (Kd.S_types (Kd.S_types HO297.out BK287.out (by decide)) BK286.out (by decide)) (fun _ hk=>hk.1.2) (Y Ao16 t295.length co16)) (fun _ hk=>hk.2) (I L t288)) (fun _ hk=>hk.2) (I L t289)) (fun _ hk=>hk.2) (I L t290)) (fun _ hk=>hk.2) (I L t291)) (fun _ hk=>hk.2) (Y Ao13 t292.length co13)) (fun _ hk=>hk.2) (Y Ao16 t295.length co16)) (fun _ hk=>hk.1.1.2),pB_ HB.out⟩

/-! ### slices_IndexFunc_impl_Kid_impl_Kid: function 38 -/
def slices_IndexFunc_impl_Kid_impl_Kid.l0 : Nat → List (S57) → (Int → Int → Bool → Int → Int → Int → Option (Bool)) → Int → Int → Option (Int)
 | 0, _, _, _, _ => none
 | k + 1,x0,x1,x7,x8=>if x8 < x7 then (if 0≤x8 then (if x8 < (x0.length:Int) then ((x1 ((rd_T57 x0 x8).f0) ((rd_T57 x0 x8).f1) ((rd_T57 x0 x8).f2) ((rd_T57 x0 x8).f3.f0) ((rd_T57 x0 x8).f3.f1) ((rd_T57 x0 x8).f3.f2)).bind fun t299=>(if t299=true then (some x8) else (slices_IndexFunc_impl_Kid_impl_Kid.l0 k x0 x1 x7 (wrap64 (x8 + 1))))) else (none)) else (none)) else (some (-1))
def slices_IndexFunc_impl_Kid_impl_Kid.f (k : Nat) (l0 : List (S57)) (a1 : (Int → Int → Bool → Int → Int → Int → Option (Bool))) : Option (Int) := slices_IndexFunc_impl_Kid_impl_Kid.l0 k l0 a1 (l0.length : Int) 0
set_option maxHeartbeats 8000000 in
set_option maxRecDepth 100000 in
theorem slices_IndexFunc_impl_Kid_impl_Kid.calls (k : Nat) (A0 : Option Addr) (c0 : Nat) (l0 : List (S57)) (a1 : (Int → Int → Bool → Int → Int → Int → Option (Bool))) (fn1 : Nat) (cp1 : Array Value) (r : Int) (w : World) (hr0 : Kd.C k57 w A0 l0.length l0) (hc0 : l0.length ≤ c0) (hq1 : Aside0 (∃ F_, Try.prog.funcs[fn1]? = some F_ ∧ (F_.name == "runtime.NumGoroutine") = false ∧ F_.body.isSome = true)) (HP1_38 : Aside0 (∀ (a900_0 a900_1 : Int) (a900_2 : Bool) (a900_3 a900_4 a900_5 : Int) (rr0_ : Bool) (W_ : World), Below w.heap.size w W_ → a1 a900_0 a900_1 a900_2 a900_3 a900_4 a900_5 = some rr0_ → Calls Try.prog fn1 (#[.agg #[I L a900_0, I L a900_1, .bool a900_2, I L a900_3, I L a900_4, I L a900_5]] ++ cp1) W_ (fun e w' => e = .returned (.bool rr0_) ∧ Below W_.heap.size W_ w'))) (h : slices_IndexFunc_impl_Kid_impl_Kid.f k l0 a1 = some r) :
  Calls Try.prog 38 #[Y A0 l0.length c0, .func (.func fn1) #[] cp1] w fun e w' => e = .returned (I L r) ∧ Below w.heap.size w w' := by
 have hu57 := Try.underlying57
 have HR0 := D hr0
 have HC0 := D hc0
 clear hr0 hc0
 have HB := D (Below.refl w.heap.size w)
 have H : (slices_IndexFunc_impl_Kid_impl_Kid.l0 k l0 a1 (l0.length : Int) 0) = some r := h
 clear h
 have H' := D H
 clear H
 go_enter Try.func38, Try.ntmps38
 go_wp2
 go_loopg [8] k (fun kq v8 w'=>∃ (x8_1:Int),v8=I L x8_1∧Aside0 (slices_IndexFunc_impl_Kid_impl_Kid.l0 kq l0 a1 (l0.length:Int) x8_1=some r)∧Aside0 (kq≤k)∧Aside0 (Below w.heap.size w w'))
 case atStart => exact ⟨(0), Z44, H', ⟨Nat.le_refl _⟩, ⟨pB_ HB.out⟩⟩
 case round =>
  clear H'
  try clear p2
  obtain ⟨x8_1, rfl, HA, HK1, HB⟩ := hrel
  cases gk with
  | zero => exact absurd HA.out (by simp [slices_IndexFunc_impl_Kid_impl_Kid.l0])
  | succ k1 =>
   have H := HA.out; clear HA; simp only [slices_IndexFunc_impl_Kid_impl_Kid.l0] at H
   by_cases c3 : x8_1 < (l0.length : Int)
   ·rw [if_pos c3] at H
    have c3b0 : decide (x8_1 < (l0.length : Int)) = true := decide_eq_true c3; clear c3
    by_cases c4 : 0 ≤ x8_1
    ·rw [if_pos c4] at H
     have c4b0 : decide (0 ≤ x8_1) = true := decide_eq_true c4; clear c4
     by_cases c5 : x8_1 < (l0.length : Int)
     ·rw [if_pos c5] at H
      have c5b0:decide (x8_1 < (l0.length:Int))=true:=decide_eq_true c5;clear c5;obtain ⟨t299,A60,H⟩:=bs_.mp H;(try dsimp only at H);have A6:=D A60;clear A60;have HU7:=D H;clear H;have p298:0≤(x8_1:Int):=od_ Z43;have q298:x8_1 < (l0.length:Int):=od_ Z43;obtain ⟨ad298,e298,hx298_0,hx298_1,hx298_2,hx298_3,hx298_4,hx298_5⟩:=at_T57 HR0.out x8_1 p298 q298;cases e298;replace hx298_0:=rc_ HB.out hx298_0;replace hx298_1:=rc_ HB.out hx298_1;replace hx298_2:=rc_ HB.out hx298_2;replace hx298_3:=rc_ HB.out hx298_3;replace hx298_4:=rc_ HB.out hx298_4;replace hx298_5:=rc_ HB.out hx298_5;replace p298:=eq_true p298;replace q298:=eq_true q298
      go_upto_if 16 with (first|((with_reducible refine gate_calleeV (j:=11) rfl ?_);obtain ⟨_,hF1_,hF2_,hF3_⟩:=hq1.out;refine goesVL_ (some 16) rfl rfl hF1_ hF2_ hF3_ #[.agg #[I L ((rd_T57 l0 x8_1).f0),I L ((rd_T57 l0 x8_1).f1),.bool ((rd_T57 l0 x8_1).f2),I L ((rd_T57 l0 x8_1).f3.f0),I L ((rd_T57 l0 x8_1).f3.f1),I L ((rd_T57 l0 x8_1).f3.f2)]] (cp:=cp1) rfl (by first|rfl|(go_simp;done)|simp) Z12 ?_;(with_reducible refine (HP1_38.out ((rd_T57 l0 x8_1).f0) ((rd_T57 l0 x8_1).f1) ((rd_T57 l0 x8_1).f2) ((rd_T57 l0 x8_1).f3.f0) ((rd_T57 l0 x8_1).f3.f1) ((rd_T57 l0 x8_1).f3.f2) t299 _ ?side1 A6.out).mono ?_);(case side1=>exact pB_ HB.out);rintro e w8 ⟨rfl,hb⟩;refine ⟨_,rfl,?_⟩;have n0_:=D (below_step (pB_ HB.out) hb);clear HB;have HB:=n0_;clear n0_;(try clear hb)))
      have H := HU7.out; clear HU7
      by_cases c9 : t299 = true
      ·subst c9
       rw [if_pos rfl] at H; obtain rfl := Option.some.inj H
       go_wp2
       go_ret; exact ⟨er_, pB_ HB.out⟩
      ·replace c9 := Bool.eq_false_iff.mpr c9
       subst c9; rw [if_neg (show ¬ (false = true) by decide)] at H; have H' := D H; clear H
       go_wp2
       go_roundg k1
       case measure => have := HK1.out; omega
       case rel => exact ⟨(wrap64 (x8_1 + 1)), Z44, H', ⟨by have := HK1.out; omega⟩, ⟨pB_ HB.out⟩⟩
     ·rw [if_neg c5] at H
      exact absurd H (by simp)
    ·rw [if_neg c4] at H
     exact absurd H (by simp)
   ·rw [if_neg c3] at H
    have c3b0 : decide (x8_1 < (l0.length : Int)) = false := decide_eq_false c3; clear c3; obtain rfl := Option.some.inj H
    go_wp2
    go_ret; exact ⟨er_, pB_ HB.out⟩

/-! ### impl_Fair_at_1: function 39 -/
def impl_Fair_at_1.f (a0_0 a0_1 : Int) (a0_2 : Bool) (a0_3 a0_4 a0_5 a1_0 : Int) : Option (Bool) := some (a0_0 == a1_0)
set_option maxHeartbeats 8000000 in
set_option maxRecDepth 100000 in
theorem impl_Fair_at_1.calls (a0_0 a0_1 : Int) (a0_2 : Bool) (a0_3 a0_4 a0_5 : Int) (gc1 : Nat) (a1_0 : Int) (r : Bool) (w : World) (hbx1 : w.heap[gc1]? = some (.cells #[I L a1_0] 3 (0, 0))) (h : impl_Fair_at_1.f a0_0 a0_1 a0_2 a0_3 a0_4 a0_5 a1_0 = some r) :
  Calls Try.prog 39 #[.agg #[I L a0_0,I L a0_1,.bool a0_2,I L a0_3,I L a0_4,I L a0_5],.pointer (some ⟨gc1,0,none⟩)] w fun e w'=>e=.returned (.bool r)∧Below w.heap.size w w':=by
 have hu57 := Try.underlying57
 have BK1 := D hbx1
 clear hbx1
 have HB := D (Below.refl w.heap.size w)
 have H : (some (a0_0 == a1_0)) = some r := h
 clear h
 obtain rfl := Option.some.inj H
 go_enter Try.func39, Try.ntmps39
 go_wp2_with (first|((with_reducible refine gate_dst (N:=2) rfl ?_);refine bx_ (N:=2) (cs:=#[I L a0_0,I L a0_1,.bool a0_2,I L a0_3,I L a0_4,I L a0_5]) (t:=57) ?_;intro gb300 hg w3 hbox hb;have n_:=an_ (blk_below (pk_ BK1.out) hb)<|an_ (below_step (pB_ HB.out) hb)<|an_ (hbox)<|an_ (bg_ hg (pB_ HB.out):w.heap.size≤gb300)<|an_ (bg_ hg (pB_ HB.out):w.heap.size≤gb300)<|an_ (nl_ hg (pk_ BK1.out):gc1≠gb300)<|D (by rw [hg];exact Nat.ne_of_gt (blk_lt (pk_ BK1.out)):gb300≠gc1);clear BK1 HB;obtain ⟨BK1,HB,BK300,GW300,GE300,NB1_300,NB300_1⟩:=n_;clear hb hbox hg;(try have:=NB300_1.out);(try have:=NB1_300.out);have hcz5_0:=cells6 BK300.out;have hcz6_0:=cells1 BK1.out))
 go_ret
 exact ⟨er_, pB_ HB.out⟩

/-! ### impl_Fair_at: function 19 -/
def impl_Fair_at.f (k : Nat) (a0_0 a0_1 a0_2 a0_3 : Int) (l0_4 : List (S57)) (a1 : Int) : Option (Int) := (slices_IndexFunc_impl_Kid_impl_Kid.f k l0_4 (fun z0_ z1_ z2_ z3_ z4_ z5_ => impl_Fair_at_1.f z0_ z1_ z2_ z3_ z4_ z5_ a1)).bind fun t303 => (some t303)
set_option maxHeartbeats 8000000 in
set_option maxRecDepth 100000 in
theorem impl_Fair_at.calls (k : Nat) (a0_0 a0_1 a0_2 a0_3 : Int) (A0_4 : Option Addr) (c0_4 : Nat) (l0_4 : List (S57)) (a1 r : Int) (w : World) (hr0_4 : Kd.C k57 w A0_4 l0_4.length l0_4) (hc0_4 : l0_4.length ≤ c0_4) (h : impl_Fair_at.f k a0_0 a0_1 a0_2 a0_3 l0_4 a1 = some r) :
  Calls Try.prog 19 #[.agg #[I L a0_0,I L a0_1,I L a0_2,I L a0_3,Y A0_4 l0_4.length c0_4],I L a1] w fun e w'=>e=.returned (I L r)∧Below w.heap.size w w':=by
 have hu34 := Try.underlying34
 have hmf : ∀ (fn : Fn) (first cap : Array Value) (w : World), (Instr.makeFunc fn first cap).run Try.prog w = .ok (.func fn first cap) w := fun _ _ _ _ => rfl
 have HR0_4 := D hr0_4
 have HC0_4 := D hc0_4
 clear hr0_4 hc0_4
 have HB := D (Below.refl w.heap.size w)
 have H : ((slices_IndexFunc_impl_Kid_impl_Kid.f k l0_4 (fun z0_ z1_ z2_ z3_ z4_ z5_ => impl_Fair_at_1.f z0_ z1_ z2_ z3_ z4_ z5_ a1)).bind fun t303 => (some t303)) = some r := h
 clear h
 obtain ⟨t303, A30, H⟩ := bs_.mp H
 (try dsimp only at H)
 have A3 := D A30
 clear A30
 obtain rfl := Option.some.inj H
 go_enter Try.func19, Try.ntmps19
 go_wp2_with (first|((with_reducible refine gate_dst (N:=2) rfl ?_);refine bx_ (N:=2) (cs:=#[I L a0_0,I L a0_1,I L a0_2,I L a0_3,Y A0_4 l0_4.length c0_4]) (t:=34) ?_;intro gb301 hg w4 hbox hb;have n_:=an_ (below_step (pB_ HB.out) hb)<|an_ (hbox)<|an_ (bg_ hg (pB_ HB.out):w.heap.size≤gb301)<|D (bg_ hg (pB_ HB.out):w.heap.size≤gb301);clear HB;obtain ⟨HB,BK301,GW301,GE301⟩:=n_;clear hb hbox hg)|((with_reducible refine gate_dst (N:=3) rfl ?_);refine bx_ (N:=3) (cs:=#[I L a1]) (t:=3) ?_;intro gb302 hg w5 hbox hb;have n_:=an_ (blk_below (pk_ BK301.out) hb)<|an_ (below_step (pB_ HB.out) hb)<|an_ (hbox)<|an_ (bg_ hg (pB_ HB.out):w.heap.size≤gb302)<|an_ (bg_ hg (pB_ HB.out):w.heap.size≤gb302)<|an_ (nl_ hg (pk_ BK301.out):gb301≠gb302)<|D (by rw [hg];exact Nat.ne_of_gt (blk_lt (pk_ BK301.out)):gb302≠gb301);clear BK301 HB;obtain ⟨BK301,HB,BK302,GW302,GE302,NB301_302,NB302_301⟩:=n_;clear hb hbox hg;(try have:=NB301_302.out);(try have:=NB302_301.out);have hcz7_0:=cells5 BK301.out)|((with_reducible refine gate_callee (f:=38) rfl ?_);refine goesL_ (some 8) rfl rfl Try.func38 (by kernel_rfl) rfl #[Y A0_4 l0_4.length c0_4,.func (.func 39) #[] #[.pointer (some ⟨gb302,0,none⟩)]] rfl Z12 ?_;(with_reducible refine (slices_IndexFunc_impl_Kid_impl_Kid.calls k _ _ l0_4 (fun z0_ z1_ z2_ z3_ z4_ z5_=>impl_Fair_at_1.f z0_ z1_ z2_ z3_ z4_ z5_ a1) 39 #[.pointer (some ⟨gb302,0,none⟩)] t303 _ ?side1 ?side2 ?side3 ?side4 A3.out).mono ?_);(case side1=>exact pC_ (Kd.C_below HR0_4.out HB.out));(case side2=>exact HC0_4.out);(case side3=>exact ⟨⟨_,Try.func39,by kernel_rfl,rfl⟩⟩);(case side4=>refine ⟨?_⟩;intro a900_0 a900_1 a900_2 a900_3 a900_4 a900_5 rr0_ W_ hW_ h_;refine calls_of_args (args':=#[.agg #[I L a900_0,I L a900_1,.bool a900_2,I L a900_3,I L a900_4,I L a900_5],.pointer (some ⟨gb302,0,none⟩)]) (by simp) ?_;refine (impl_Fair_at_1.calls a900_0 a900_1 a900_2 a900_3 a900_4 a900_5 gb302 a1 rr0_ W_ (blk_below (pk_ BK302.out) hW_) h_).mono ?_;rintro e w' ⟨rfl,hd_⟩;exact ⟨rfl,hd_⟩);rintro e w8 ⟨rfl,hb⟩;refine ⟨_,rfl,?_⟩;have n_:=an_ (blk_below (pk_ BK301.out) hb)<|an_ (blk_below (pk_ BK302.out) hb)<|D (below_step (pB_ HB.out) hb);clear BK301 BK302 HB;obtain ⟨BK301,BK302,HB⟩:=n_;(try clear hb)))
 go_ret
 exact ⟨er_, pB_ HB.out⟩

/-! ### impl_VecTop: function 53 -/
def impl_VecTop.f (a0_0 a0_1 a0_2 : Int) : Option (Int) := some (mx (mx a0_0 a0_1) a0_2)
set_option maxHeartbeats 8000000 in
set_option maxRecDepth 100000 in
theorem impl_VecTop.calls (a0_0 a0_1 a0_2 r : Int) (w : World) (h : impl_VecTop.f a0_0 a0_1 a0_2 = some r) :
  Calls Try.prog 53 #[.agg #[I L a0_0, I L a0_1, I L a0_2]] w fun e w' => e = .returned (I L r) ∧ Below w.heap.size w w' := by
 have hu31 := Try.underlying31
 have HB := D (Below.refl w.heap.size w)
 have H : (some (mx (mx a0_0 a0_1) a0_2)) = some r := h
 clear h
 obtain ⟨ji2, hji2⟩ : ∃ j_ : Int, (mx a0_0 a0_1) = j_ := ⟨_, rfl⟩
 replace H : (some (mx (ji2) a0_2)) = some r := by first | (rw [hji2] at H; exact H) | (simp only [hji2] at H ⊢; exact H)
 have hji2_ : (if a0_0 < a0_1 then a0_1 else a0_0) = ji2 := hji2
 obtain ⟨ji3, hji3⟩ : ∃ j_ : Int, (mx (ji2) a0_2) = j_ := ⟨_, rfl⟩
 replace H : (some ji3) = some r := by first | (rw [hji3] at H; exact H) | (simp only [hji3] at H ⊢; exact H)
 have hji3_ : (if (ji2) < a0_2 then a0_2 else (ji2)) = ji3 := hji3
 obtain rfl := Option.some.inj H
 go_enter Try.func53, Try.ntmps53
 go_wp2_with (first|((with_reducible refine gate_dst (N:=1) rfl ?_);refine bx_ (N:=1) (cs:=#[I L a0_0,I L a0_1,I L a0_2]) (t:=31) ?_;intro gb304 hg w4 hbox hb;have n_:=an_ (below_step (pB_ HB.out) hb)<|an_ (hbox)<|an_ (bg_ hg (pB_ HB.out):w.heap.size≤gb304)<|D (bg_ hg (pB_ HB.out):w.heap.size≤gb304);clear HB;obtain ⟨HB,BK304,GW304,GE304⟩:=n_;clear hb hbox hg;have hcz5_0:=cells3 BK304.out))
 go_ret
 exact ⟨by first|rfl|(simp [errW_none,errW_some] <;> rfl)|(simp only [← hji2,← hji3];first|rfl|(simp [errW_none,errW_some] <;> rfl))|(simp [*,errW_none,errW_some] <;> rfl),pB_ HB.out⟩

/-! ### impl_within: function 67 -/
def impl_within.f (a0 a1 a2 : Int) : Option (Bool) := if a0 ≥ a1 then (some (decide (a0 ≤ a2))) else (some false)
set_option maxHeartbeats 8000000 in
set_option maxRecDepth 100000 in
theorem impl_within.calls (a0 a1 a2 : Int) (r : Bool) (w : World) (h : impl_within.f a0 a1 a2 = some r) :
  Calls Try.prog 67 #[I L a0, I L a1, I L a2] w fun e w' => e = .returned (.bool r) ∧ Drawn0 w w' := by
 have H : (if a0 ≥ a1 then (some (decide (a0 ≤ a2))) else (some false)) = some r := h
 clear h
 by_cases c4 : a0 ≥ a1
 ·rw [if_pos c4] at H
  have c4b0 : decide (a1 ≤ a0) = true := decide_eq_true c4; clear c4; obtain rfl := Option.some.inj H; go_enter Try.func67, Try.ntmps67
  go_wp2
  go_ret; exact ⟨by first | rfl | (simp; done) | (simp [*]; done), by repeat (first | exact Drawn0.refl _ | apply Drawn0.step)⟩
 ·rw [if_neg c4] at H
  have c4b0 : decide (a1 ≤ a0) = false := decide_eq_false c4; clear c4; obtain rfl := Option.some.inj H; go_enter Try.func67, Try.ntmps67
  go_wp2
  go_ret; exact ⟨by first | rfl | (simp; done) | (simp [*]; done), by repeat (first | exact Drawn0.refl _ | apply Drawn0.step)⟩

/-! ### impl_Vec_isFrom: function 62 -/
def impl_Vec_isFrom.f (a0_0 a0_1 a0_2 a1 a2 : Int) : Option (Bool) := (impl_within.f a0_0 a1 a2).bind fun t306 => (if t306 = true then ((impl_within.f a0_1 a1 a2).bind fun t307 => (if t307 = true then ((impl_within.f a0_2 a1 a2).bind fun t308 => (some t308)) else (some false))) else (some false))
set_option maxHeartbeats 8000000 in
set_option maxRecDepth 100000 in
theorem impl_Vec_isFrom.calls (a0_0 a0_1 a0_2 a1 a2 : Int) (r : Bool) (w : World) (h : impl_Vec_isFrom.f a0_0 a0_1 a0_2 a1 a2 = some r) :
  Calls Try.prog 62 #[.agg #[I L a0_0, I L a0_1, I L a0_2], I L a1, I L a2] w fun e w' => e = .returned (.bool r) ∧ Below w.heap.size w w' := by
 have hu31 := Try.underlying31
 have HB := D (Below.refl w.heap.size w)
 have H:((impl_within.f a0_0 a1 a2).bind fun t306=>(if t306=true then ((impl_within.f a0_1 a1 a2).bind fun t307=>(if t307=true then ((impl_within.f a0_2 a1 a2).bind fun t308=>(some t308)) else (some false))) else (some false)))=some r:=h
 clear h
 obtain ⟨t306, A40, H⟩ := bs_.mp H
 (try dsimp only at H)
 have A4 := D A40
 clear A40
 by_cases c5 : t306 = true
 ·subst c5
  rw [if_pos rfl] at H; obtain ⟨t307, A60, H⟩ := bs_.mp H; (try dsimp only at H); have A6 := D A60; clear A60
  by_cases c7 : t307 = true
  ·subst c7
   rw [if_pos rfl] at H;obtain ⟨t308,A80,H⟩:=bs_.mp H;(try dsimp only at H);have A8:=D A80;clear A80;obtain rfl:=Option.some.inj H;go_enter Try.func62,Try.ntmps62
   go_wp2_with (first|((with_reducible refine gate_dst (N:=3) rfl ?_);refine bx_ (N:=3) (cs:=#[I L a0_0,I L a0_1,I L a0_2]) (t:=31) ?_;intro gb305 hg w9 hbox hb;have n_:=an_ (below_step (pB_ HB.out) hb)<|an_ (hbox)<|an_ (bg_ hg (pB_ HB.out):w.heap.size≤gb305)<|D (bg_ hg (pB_ HB.out):w.heap.size≤gb305);clear HB;obtain ⟨HB,BK305,GW305,GE305⟩:=n_;clear hb hbox hg;have hcz10_0:=cells3 BK305.out)|((with_reducible refine gate_callee (f:=67) rfl ?_);refine goesL_ (some 11) rfl rfl Try.func67 (by kernel_rfl) rfl #[I L a0_0,I L a1,I L a2] rfl Z12 ?_;(with_reducible refine (impl_within.calls a0_0 a1 a2 true _ A4.out).mono ?_);rintro e w' ⟨rfl,⟨nd,rfl⟩⟩;refine ⟨_,rfl,?_⟩)|(go_at_call 67;(with_reducible refine (impl_within.calls a0_1 a1 a2 true _ A6.out).mono ?_);rintro e w' ⟨rfl,⟨nd,rfl⟩⟩)|(go_at_call 67;(with_reducible refine (impl_within.calls a0_2 a1 a2 t308 _ A8.out).mono ?_);rintro e w' ⟨rfl,⟨nd,rfl⟩⟩))
   go_ret; exact ⟨er_, pB_ HB.out⟩
  ·replace c7 := Bool.eq_false_iff.mpr c7
   subst c7; rw [if_neg (show ¬ (false = true) by decide)] at H; obtain rfl := Option.some.inj H; go_enter Try.func62, Try.ntmps62
   go_wp2_with (first|((with_reducible refine gate_dst (N:=3) rfl ?_);refine bx_ (N:=3) (cs:=#[I L a0_0,I L a0_1,I L a0_2]) (t:=31) ?_;intro gb305 hg w11 hbox hb;have n_:=an_ (below_step (pB_ HB.out) hb)<|an_ (hbox)<|an_ (bg_ hg (pB_ HB.out):w.heap.size≤gb305)<|D (bg_ hg (pB_ HB.out):w.heap.size≤gb305);clear HB;obtain ⟨HB,BK305,GW305,GE305⟩:=n_;clear hb hbox hg;have hcz12_0:=cells3 BK305.out)|((with_reducible refine gate_callee (f:=67) rfl ?_);refine goesL_ (some 11) rfl rfl Try.func67 (by kernel_rfl) rfl #[I L a0_0,I L a1,I L a2] rfl Z12 ?_;(with_reducible refine (impl_within.calls a0_0 a1 a2 true _ A4.out).mono ?_);rintro e w' ⟨rfl,⟨nd,rfl⟩⟩;refine ⟨_,rfl,?_⟩)|(go_at_call 67;(with_reducible refine (impl_within.calls a0_1 a1 a2 false _ A6.out).mono ?_);rintro e w' ⟨rfl,⟨nd,rfl⟩⟩))
   go_ret; exact ⟨er_, pB_ HB.out⟩
 ·replace c5 := Bool.eq_false_iff.mpr c5
  subst c5; rw [if_neg (show ¬ (false = true) by decide)] at H; obtain rfl := Option.some.inj H; go_enter Try.func62, Try.ntmps62
  go_wp2_with (first|((with_reducible refine gate_dst (N:=3) rfl ?_);refine bx_ (N:=3) (cs:=#[I L a0_0,I L a0_1,I L a0_2]) (t:=31) ?_;intro gb305 hg w13 hbox hb;have n_:=an_ (below_step (pB_ HB.out) hb)<|an_ (hbox)<|an_ (bg_ hg (pB_ HB.out):w.heap.size≤gb305)<|D (bg_ hg (pB_ HB.out):w.heap.size≤gb305);clear HB;obtain ⟨HB,BK305,GW305,GE305⟩:=n_;clear hb hbox hg;have hcz14_0:=cells3 BK305.out)|((with_reducible refine gate_callee (f:=67) rfl ?_);refine goesL_ (some 11) rfl rfl Try.func67 (by kernel_rfl) rfl #[I L a0_0,I L a1,I L a2] rfl Z12 ?_;(with_reducible refine (impl_within.calls a0_0 a1 a2 false _ A4.out).mono ?_);rintro e w' ⟨rfl,⟨nd,rfl⟩⟩;refine ⟨_,rfl,?_⟩))
  go_ret; exact ⟨er_, pB_ HB.out⟩

/-! ### impl_TagOk: function 60 -/
def impl_TagOk.f (a0_0 a0_1 a0_2 : Int) : Option (Bool) := (impl_Vec_isFrom.f a0_0 a0_1 a0_2 0 1000000000000).bind fun t310 => (some t310)
set_option maxHeartbeats 8000000 in
set_option maxRecDepth 100000 in
theorem impl_TagOk.calls (a0_0 a0_1 a0_2 : Int) (r : Bool) (w : World) (h : impl_TagOk.f a0_0 a0_1 a0_2 = some r) :
  Calls Try.prog 60 #[.agg #[I L a0_0, I L a0_1, I L a0_2]] w fun e w' => e = .returned (.bool r) ∧ Below w.heap.size w w' := by
 have hu31 := Try.underlying31
 have HB := D (Below.refl w.heap.size w)
 have H : ((impl_Vec_isFrom.f a0_0 a0_1 a0_2 0 1000000000000).bind fun t310 => (some t310)) = some r := h
 clear h
 obtain ⟨t310, A20, H⟩ := bs_.mp H
 (try dsimp only at H)
 have A2 := D A20
 clear A20
 obtain rfl := Option.some.inj H
 go_enter Try.func60, Try.ntmps60
 go_wp2_with (first|((with_reducible refine gate_dst (N:=1) rfl ?_);refine bx_ (N:=1) (cs:=#[I L a0_0,I L a0_1,I L a0_2]) (t:=31) ?_;intro gb309 hg w3 hbox hb;have n_:=an_ (below_step (pB_ HB.out) hb)<|an_ (hbox)<|an_ (bg_ hg (pB_ HB.out):w.heap.size≤gb309)<|D (bg_ hg (pB_ HB.out):w.heap.size≤gb309);clear HB;obtain ⟨HB,BK309,GW309,GE309⟩:=n_;clear hb hbox hg;have hcz4_0:=cells3 BK309.out)|((with_reducible refine gate_callee (f:=62) rfl ?_);refine goesL_ (some 4) rfl rfl Try.func62 (by kernel_rfl) rfl #[.agg #[I L a0_0,I L a0_1,I L a0_2],I L 0,I L 1000000000000] rfl Z12 ?_;(with_reducible refine (impl_Vec_isFrom.calls a0_0 a0_1 a0_2 0 1000000000000 t310 _ A2.out).mono ?_);rintro e w5 ⟨rfl,hb⟩;refine ⟨_,rfl,?_⟩;have n_:=an_ (blk_below (pk_ BK309.out) hb)<|D (below_step (pB_ HB.out) hb);clear BK309 HB;obtain ⟨BK309,HB⟩:=n_;(try clear hb)))
 go_ret
 exact ⟨er_, pB_ HB.out⟩

/-! ### impl_isDelta: function 61 -/
def impl_isDelta.f (a0 : Int) : Option (Bool) := (impl_within.f a0 0 10000000).bind fun t311 => (some t311)
set_option maxHeartbeats 8000000 in
set_option maxRecDepth 100000 in
theorem impl_isDelta.calls (a0 : Int) (r : Bool) (w : World) (h : impl_isDelta.f a0 = some r) :
  Calls Try.prog 61 #[I L a0] w fun e w' => e = .returned (.bool r) ∧ Drawn0 w w' := by
 have H : ((impl_within.f a0 0 10000000).bind fun t311 => (some t311)) = some r := h
 clear h
 obtain ⟨t311, A20, H⟩ := bs_.mp H
 (try dsimp only at H)
 have A2 := D A20
 clear A20
 obtain rfl := Option.some.inj H
 go_enter Try.func61, Try.ntmps61
 go_wp2_with (first|((with_reducible refine gate_callee (f:=67) rfl ?_);refine goesL_ (some 4) rfl rfl Try.func67 (by kernel_rfl) rfl #[I L a0,I L 0,I L 10000000] rfl Z12 ?_;(with_reducible refine (impl_within.calls a0 0 10000000 t311 _ A2.out).mono ?_);rintro e w' ⟨rfl,⟨nd,rfl⟩⟩;refine ⟨_,rfl,?_⟩))
 go_ret
 exact ⟨by first | rfl | (simp; done) | (simp [*]; done), by repeat (first | exact Drawn0.refl _ | apply Drawn0.step)⟩

/-! ### impl_Narrow: function 52 -/
def impl_Narrow.f (a0_0 a0_1 a0_2 a1 : Int) : Option (Bool) := (impl_TagOk.f a0_0 a0_1 a0_2).bind fun t313 => (if t313 = true then ((impl_isDelta.f a1).bind fun t314 => (if t314 = true then ((impl_VecTop.f a0_0 a0_1 a0_2).bind fun t315 => ((impl_Vec_isFrom.f a0_0 a0_1 a0_2 (wrap64 (t315 - a1)) 1000000000000).bind fun t316 => (some t316))) else (some false))) else (some false))
def impl_Narrow.T1 : Bool × List (List Nat × List Nat) := (true, [([], []), ([0], [0]), ([1, 1], [1]), ([2], [2]), ([3, 2, 2], [2, 3]), ([2, 4], [2, 4]), ([5, 4], [5]), ([6], [6]), ([6], [6]), ([8, 6, 6], [6, 8]), ([6], [6]), ([9, 10, 6], [6, 9, 10]), ([7, 11, 9, 6], [6, 7, 11]), ([6, 12], [6, 12]), ([13, 12, 0, 1, 2, 3, 4, 5, 6, 7, 8, 9, 10, 11, 12, 13], [13])])
def impl_Narrow.B1 : List Nat := [0, 1, 3, 7, 15, 31, 63, 127, 127, 383, 127, 1919, 4095, 8191, 16383]
theorem impl_Narrow.tab1 : rtab .any (opsOf Try.f52 1) = impl_Narrow.T1 := by kernel_rfl
theorem impl_Narrow.bits1 : waitsOk impl_Narrow.T1.2 impl_Narrow.B1 = true := by kernel_rfl
set_option maxHeartbeats 8000000 in
set_option maxRecDepth 100000 in
theorem impl_Narrow.calls (a0_0 a0_1 a0_2 a1 : Int) (r : Bool) (w : World) (h : impl_Narrow.f a0_0 a0_1 a0_2 a1 = some r) :
  Calls Try.prog 52 #[.agg #[I L a0_0, I L a0_1, I L a0_2], I L a1] w fun e w' => e = .returned (.bool r) ∧ Below w.heap.size w w' := by
 have hu31 := Try.underlying31
 have HB := D (Below.refl w.heap.size w)
 have H:((impl_TagOk.f a0_0 a0_1 a0_2).bind fun t313=>(if t313=true then ((impl_isDelta.f a1).bind fun t314=>(if t314=true then ((impl_VecTop.f a0_0 a0_1 a0_2).bind fun t315=>((impl_Vec_isFrom.f a0_0 a0_1 a0_2 (wrap64 (t315 - a1)) 1000000000000).bind fun t316=>(some t316))) else (some false))) else (some false)))=some r:=h
 clear h
 obtain ⟨t313, A30, H⟩ := bs_.mp H
 (try dsimp only at H)
 have A3 := D A30
 clear A30
 by_cases c4 : t313 = true
 ·subst c4
  rw [if_pos rfl] at H; obtain ⟨t314, A50, H⟩ := bs_.mp H; (try dsimp only at H); have A5 := D A50; clear A50
  by_cases c6 : t314 = true
  ·subst c6
   rw [if_pos rfl] at H;obtain ⟨t315,A70,H⟩:=bs_.mp H;(try dsimp only at H);have A7:=D A70;clear A70;obtain ⟨t316,A80,H⟩:=bs_.mp H;(try dsimp only at H);have A8:=D A80;clear A80;obtain rfl:=Option.some.inj H;go_enter Try.func52,Try.ntmps52
   try go_wp2_with (first|((with_reducible refine gate_dst (N:=2) rfl ?_);refine bx_ (N:=2) (cs:=#[I L a0_0,I L a0_1,I L a0_2]) (t:=31) ?_;intro gb312 hg w9 hbox hb;have n_:=an_ (below_step (pB_ HB.out) hb)<|an_ (hbox)<|an_ (bg_ hg (pB_ HB.out):w.heap.size≤gb312)<|D (bg_ hg (pB_ HB.out):w.heap.size≤gb312);clear HB;obtain ⟨HB,BK312,GW312,GE312⟩:=n_;clear hb hbox hg))
   have n_ := an_ (blk_drew BK312.out) <| D (below_drew1 HB.out)
   clear BK312 HB;obtain ⟨BK312,HB⟩:=n_;refine start_ (n:=15) (S:=fun w'=>w'.cell? ⟨gb312,0,none⟩=some (I L a0_0)∧w'.cell? ⟨gb312,1,none⟩=some (I L a0_1)∧w'.cell? ⟨gb312,2,none⟩=some (I L a0_2)) (ds:=[]) (bz 15 0) (by kernel_rfl) rfl (by kernel_rfl) (be3_ BK312.out) (fun hHeld=>?_);refine with_tabW impl_Narrow.tab1 impl_Narrow.bits1 (fun HT_ HW_=>?_);generalize w9.drew=w10 at BK312 HB hHeld ⊢;refine tb_ 0 rfl rfl hHeld Z42 ?_;refine oa_ 1 6 15 3 HT_ (fun K hK=>?_);refine goes_ Try.func60 (by kernel_rfl) rfl #[.agg #[I L a0_0,I L a0_1,I L a0_2]] (by rfl) rfl rfl Z12 ?_;with_reducible refine (impl_TagOk.calls a0_0 a0_1 a0_2 true _ A3.out).mono ?_
   rintro e w11 ⟨rfl, hb⟩; refine ⟨_, rfl, ?_⟩
   have n_ := an_ (blk_below (pk_ BK312.out) hb) <| D (below_step (pB_ HB.out) hb)
   clear BK312 HB;obtain ⟨BK312,HB⟩:=n_;refine hK.out _ _ (be3_ BK312.out) (fun hHeld=>?_);clear hK K;refine nx_ (N:=some 6) ?_;refine pb_ 2 ?_;refine pb_ 3 ?_;refine oa_ 4 9 15 31 HT_ (fun K hK=>?_);refine goes_ Try.func61 (by kernel_rfl) rfl #[I L a1] (by rfl) rfl rfl Z12 ?_;with_reducible refine (impl_isDelta.calls a1 true _ A5.out).mono ?_
   rintro e w' ⟨rfl,⟨nd,rfl⟩⟩;refine ⟨_,rfl,?_⟩;refine hK.out _ _ (be3_ BK312.out) (fun hHeld=>?_);clear hK K;refine nx_ (N:=some 9) ?_;refine pb_ 5 ?_;refine pb_ 6 ?_;refine pb_ 10 ?_;refine tb_ 7 rfl rfl hHeld Z42 ?_;refine tb_ 8 rfl rfl hHeld Z42 ?_;refine oa_ 9 14 15 2047 HT_ (fun K hK=>?_);refine goes_ Try.func53 (by kernel_rfl) rfl #[.agg #[I L a0_0,I L a0_1,I L a0_2]] (by rfl) rfl rfl Z12 ?_;with_reducible refine (impl_VecTop.calls a0_0 a0_1 a0_2 t315 _ A7.out).mono ?_
   rintro e w12 ⟨rfl, hb⟩; refine ⟨_, rfl, ?_⟩
   have n_ := an_ (blk_below (pk_ BK312.out) hb) <| D (below_step (pB_ HB.out) hb)
   clear BK312 HB;obtain ⟨BK312,HB⟩:=n_;refine hK.out _ _ (be3_ BK312.out) (fun hHeld=>?_);clear hK K;refine nx_ (N:=some 14) ?_;refine pb_ 11 ?_;refine oa_ 12 17 15 8191 HT_ (fun K hK=>?_);refine goes_ Try.func62 (by kernel_rfl) rfl #[.agg #[I L a0_0,I L a0_1,I L a0_2],I L (wrap64 (t315 - a1)),I L 1000000000000] (by rfl) rfl rfl Z12 ?_;with_reducible refine (impl_Vec_isFrom.calls a0_0 a0_1 a0_2 (wrap64 (t315 - a1)) 1000000000000 t316 _ A8.out).mono ?_
   rintro e w13 ⟨rfl, hb⟩; refine ⟨_, rfl, ?_⟩
   have n_ := an_ (blk_below (pk_ BK312.out) hb) <| D (below_step (pB_ HB.out) hb)
   clear BK312 HB;obtain ⟨BK312,HB⟩:=n_;refine hK.out _ _ (be3_ BK312.out) (fun hHeld=>?_);clear hK K;refine nx_ (N:=some 17) ?_;refine pb_ 13 ?_;refine pb_ 14 ?_;refine done_ (done_of HT_.out (by kernel_rfl)) ?_
   try go_wp2
   go_ret; exact ⟨er_, pB_ HB.out⟩
  ·replace c6 := Bool.eq_false_iff.mpr c6
   subst c6; rw [if_neg (show ¬ (false = true) by decide)] at H; obtain rfl := Option.some.inj H; go_enter Try.func52, Try.ntmps52
   try go_wp2_with (first|((with_reducible refine gate_dst (N:=2) rfl ?_);refine bx_ (N:=2) (cs:=#[I L a0_0,I L a0_1,I L a0_2]) (t:=31) ?_;intro gb312 hg w14 hbox hb;have n_:=an_ (below_step (pB_ HB.out) hb)<|an_ (hbox)<|an_ (bg_ hg (pB_ HB.out):w.heap.size≤gb312)<|D (bg_ hg (pB_ HB.out):w.heap.size≤gb312);clear HB;obtain ⟨HB,BK312,GW312,GE312⟩:=n_;clear hb hbox hg))
   have n_ := an_ (blk_drew BK312.out) <| D (below_drew1 HB.out)
   clear BK312 HB;obtain ⟨BK312,HB⟩:=n_;refine start_ (n:=15) (S:=fun w'=>w'.cell? ⟨gb312,0,none⟩=some (I L a0_0)∧w'.cell? ⟨gb312,1,none⟩=some (I L a0_1)∧w'.cell? ⟨gb312,2,none⟩=some (I L a0_2)) (ds:=[]) (bz 15 0) (by kernel_rfl) rfl (by kernel_rfl) (be3_ BK312.out) (fun hHeld=>?_);refine with_tabW impl_Narrow.tab1 impl_Narrow.bits1 (fun HT_ HW_=>?_);generalize w14.drew=w15 at BK312 HB hHeld ⊢;refine tb_ 0 rfl rfl hHeld Z42 ?_;refine oa_ 1 6 15 3 HT_ (fun K hK=>?_);refine goes_ Try.func60 (by kernel_rfl) rfl #[.agg #[I L a0_0,I L a0_1,I L a0_2]] (by rfl) rfl rfl Z12 ?_;with_reducible refine (impl_TagOk.calls a0_0 a0_1 a0_2 true _ A3.out).mono ?_
   rintro e w16 ⟨rfl, hb⟩; refine ⟨_, rfl, ?_⟩
   have n_ := an_ (blk_below (pk_ BK312.out) hb) <| D (below_step (pB_ HB.out) hb)
   clear BK312 HB;obtain ⟨BK312,HB⟩:=n_;refine hK.out _ _ (be3_ BK312.out) (fun hHeld=>?_);clear hK K;refine nx_ (N:=some 6) ?_;refine pb_ 2 ?_;refine pb_ 3 ?_;refine oa_ 4 9 15 31 HT_ (fun K hK=>?_);refine goes_ Try.func61 (by kernel_rfl) rfl #[I L a1] (by rfl) rfl rfl Z12 ?_;with_reducible refine (impl_isDelta.calls a1 false _ A5.out).mono ?_
   rintro e w' ⟨rfl,⟨nd,rfl⟩⟩;refine ⟨_,rfl,?_⟩;refine hK.out _ _ (be3_ BK312.out) (fun hHeld=>?_);clear hK K;refine nx_ (N:=some 9) ?_;refine pb_ 5 ?_;refine pb_ 6 ?_;refine ob_ 7 ?_;refine ob_ 8 ?_;refine ob_ 9 ?_;refine ob_ 10 ?_;refine ob_ 11 ?_;refine ob_ 12 ?_;refine pb_ 13 ?_;refine pb_ 14 ?_;refine done_ (done_of HT_.out (by kernel_rfl)) ?_
   try go_wp2
   go_ret; exact ⟨er_, pB_ HB.out⟩
 ·replace c4 := Bool.eq_false_iff.mpr c4
  subst c4; rw [if_neg (show ¬ (false = true) by decide)] at H; obtain rfl := Option.some.inj H; go_enter Try.func52, Try.ntmps52
  try go_wp2_with (first|((with_reducible refine gate_dst (N:=2) rfl ?_);refine bx_ (N:=2) (cs:=#[I L a0_0,I L a0_1,I L a0_2]) (t:=31) ?_;intro gb312 hg w17 hbox hb;have n_:=an_ (below_step (pB_ HB.out) hb)<|an_ (hbox)<|an_ (bg_ hg (pB_ HB.out):w.heap.size≤gb312)<|D (bg_ hg (pB_ HB.out):w.heap.size≤gb312);clear HB;obtain ⟨HB,BK312,GW312,GE312⟩:=n_;clear hb hbox hg))
  have n_ := an_ (blk_drew BK312.out) <| D (below_drew1 HB.out)
  clear BK312 HB;obtain ⟨BK312,HB⟩:=n_;refine start_ (n:=15) (S:=fun w'=>w'.cell? ⟨gb312,0,none⟩=some (I L a0_0)∧w'.cell? ⟨gb312,1,none⟩=some (I L a0_1)∧w'.cell? ⟨gb312,2,none⟩=some (I L a0_2)) (ds:=[]) (bz 15 0) (by kernel_rfl) rfl (by kernel_rfl) (be3_ BK312.out) (fun hHeld=>?_);refine with_tabW impl_Narrow.tab1 impl_Narrow.bits1 (fun HT_ HW_=>?_);generalize w17.drew=w18 at BK312 HB hHeld ⊢;refine tb_ 0 rfl rfl hHeld Z42 ?_;refine oa_ 1 6 15 3 HT_ (fun K hK=>?_);refine goes_ Try.func60 (by kernel_rfl) rfl #[.agg #[I L a0_0,I L a0_1,I L a0_2]] (by rfl) rfl rfl Z12 ?_;with_reducible refine (impl_TagOk.calls a0_0 a0_1 a0_2 false _ A3.out).mono ?_
  rintro e w19 ⟨rfl, hb⟩; refine ⟨_, rfl, ?_⟩
  have n_ := an_ (blk_below (pk_ BK312.out) hb) <| D (below_step (pB_ HB.out) hb)
  clear BK312 HB;obtain ⟨BK312,HB⟩:=n_;refine hK.out _ _ (be3_ BK312.out) (fun hHeld=>?_);clear hK K;refine nx_ (N:=some 6) ?_;refine pb_ 2 ?_;refine ob_ 3 ?_;refine ob_ 4 ?_;refine pb_ 5 ?_;refine pb_ 6 ?_;refine ob_ 7 ?_;refine ob_ 8 ?_;refine ob_ 9 ?_;refine ob_ 10 ?_;refine ob_ 11 ?_;refine ob_ 12 ?_;refine pb_ 13 ?_;refine pb_ 14 ?_;refine done_ (done_of HT_.out (by kernel_rfl)) ?_
  try go_wp2
  go_ret; exact ⟨er_, pB_ HB.out⟩

/-! ### impl_isFlow: function 63 -/
def impl_isFlow.f (a0 : Int) : Option (Bool) := (impl_within.f a0 0 9999).bind fun t317 => (some t317)
set_option maxHeartbeats 8000000 in
set_option maxRecDepth 100000 in
theorem impl_isFlow.calls (a0 : Int) (r : Bool) (w : World) (h : impl_isFlow.f a0 = some r) :
  Calls Try.prog 63 #[I L a0] w fun e w' => e = .returned (.bool r) ∧ Drawn0 w w' := by
 have H : ((impl_within.f a0 0 9999).bind fun t317 => (some t317)) = some r := h
 clear h
 obtain ⟨t317, A20, H⟩ := bs_.mp H
 (try dsimp only at H)
 have A2 := D A20
 clear A20
 obtain rfl := Option.some.inj H
 go_enter Try.func63, Try.ntmps63
 go_wp2_with (first|((with_reducible refine gate_callee (f:=67) rfl ?_);refine goesL_ (some 4) rfl rfl Try.func67 (by kernel_rfl) rfl #[I L a0,I L 0,I L 9999] rfl Z12 ?_;(with_reducible refine (impl_within.calls a0 0 9999 t317 _ A2.out).mono ?_);rintro e w' ⟨rfl,⟨nd,rfl⟩⟩;refine ⟨_,rfl,?_⟩))
 go_ret
 exact ⟨by first | rfl | (simp; done) | (simp [*]; done), by repeat (first | exact Drawn0.refl _ | apply Drawn0.step)⟩

/-! ### impl_isWeight: function 64 -/
def impl_isWeight.f (a0 : Int) : Option (Bool) := (impl_within.f a0 1 10).bind fun t318 => (some t318)
set_option maxHeartbeats 8000000 in
set_option maxRecDepth 100000 in
theorem impl_isWeight.calls (a0 : Int) (r : Bool) (w : World) (h : impl_isWeight.f a0 = some r) :
  Calls Try.prog 64 #[I L a0] w fun e w' => e = .returned (.bool r) ∧ Drawn0 w w' := by
 have H : ((impl_within.f a0 1 10).bind fun t318 => (some t318)) = some r := h
 clear h
 obtain ⟨t318, A20, H⟩ := bs_.mp H
 (try dsimp only at H)
 have A2 := D A20
 clear A20
 obtain rfl := Option.some.inj H
 go_enter Try.func64, Try.ntmps64
 go_wp2_with (first|((with_reducible refine gate_callee (f:=67) rfl ?_);refine goesL_ (some 4) rfl rfl Try.func67 (by kernel_rfl) rfl #[I L a0,I L 1,I L 10] rfl Z12 ?_;(with_reducible refine (impl_within.calls a0 1 10 t318 _ A2.out).mono ?_);rintro e w' ⟨rfl,⟨nd,rfl⟩⟩;refine ⟨_,rfl,?_⟩))
 go_ret
 exact ⟨by first | rfl | (simp; done) | (simp [*]; done), by repeat (first | exact Drawn0.refl _ | apply Drawn0.step)⟩

end Go.Proofs.Ytmloggnobgikdaa.PFnExactTreeCut
