-- by a program of this session's, over the kit's words
import Derived.Test.YtjfknflhajeglabPZFnExactTreeTenant
import Derived.Test.YtjfknflhajeglabPFnExactTreeTenantx0
import Derived.Test.YtjfknflhajeglabPFnExactTreeTenantx9
namespace Go.Proofs.Ytjfknflhajeglab.PFnExactTreeTenant
open Go.RowKit Go.Proofs.YtjfknflhajeglabW.PrintWords Go.Proofs.YtjfknflhajeglabW.PrintLast Go.Proofs.YtjfknflhajeglabW.PrintMore Go.Proofs.YtjfknflhajeglabV Go.Proofs.Ytjfknflhajeglab.ZFnExactTreeTenant
open Go.Value renaming int → I, slice → Y
open Go.IntKind renaming i64 → L
open Aside0 renaming mk → D
open Option renaming bind_eq_some_iff → bs_
attribute [local go_sem] max2_int min2_int max_two min_two max_three min_three max_four min_four   -- for this text's walks alone
set_option linter.unusedVariables false
set_option linter.unusedSimpArgs false

/-! ### laws_toKidS: function 41 -/
def laws_toKidS.l0 : Nat → List (S89) → List (S51) → Int → Option ((List (S51)))
 | 0, _, _, _ => none
 | k + 1,x0,x3,x4=>if x4 < (x0.length:Int) then (if 0≤x4 then ((laws_toKid.f ((rd_T89 x0 x4).f0) ((rd_T89 x0 x4).f1) ((rd_T89 x0 x4).f2) ((rd_T89 x0 x4).f3.f0) ((rd_T89 x0 x4).f3.f1) ((rd_T89 x0 x4).f3.f2)).bind fun bt289=>(if x4 < (x3.length:Int) then (laws_toKidS.l0 k x0 (x3.set (x4:Int).toNat (⟨bt289.1,bt289.2.1,bt289.2.2.1,(⟨bt289.2.2.2.1,bt289.2.2.2.2.1,bt289.2.2.2.2.2⟩:S31)⟩:S51)) (wrap64 (x4 + 1))) else (none))) else (none)) else (some x3)
def laws_toKidS.f (k : Nat) (l0 : List (S89)) : Option ((List (S51))) := if 0 ≤ (l0.length : Int) then (if ((l0.length : Int) : Int).toNat ≤ 5864062014805 then (laws_toKidS.l0 k l0 (List.replicate ((l0.length : Int) : Int).toNat z51) 0) else (none)) else (none)
set_option maxHeartbeats 8000000 in
set_option maxRecDepth 100000 in
theorem laws_toKidS.calls (k : Nat) (A0 : Option Addr) (c0 : Nat) (l0 : List (S89)) (r : List (S51)) (w : World) (hr0 : Kd.C k89 w A0 l0.length l0) (hc0 : l0.length ≤ c0) (h : laws_toKidS.f k l0 = some r) :
  Calls Try.prog 41 #[Y A0 l0.length c0] w fun e w' => ∃ v0_ : Value, e = .returned (v0_) ∧ Kd.R k51 51 w' w.heap.size (fun _ => True) v0_ r ∧ Below w.heap.size w w' := by
 have hu89 := Try.underlying89
 have hu51 := Try.underlying51
 have HR0 := D hr0
 have HC0 := D hc0
 clear hr0 hc0
 have HB := D (Below.refl w.heap.size w)
 have H:(if 0≤(l0.length:Int) then (if ((l0.length:Int):Int).toNat≤5864062014805 then (laws_toKidS.l0 k l0 (List.replicate ((l0.length:Int):Int).toNat z51) 0) else (none)) else (none))=some r:=h
 clear h
 by_cases c2 : 0 ≤ (l0.length : Int)
 ·rw [if_pos c2] at H
  have c2b0 := eq_true c2; have c2b1 : decide (0 ≤ (l0.length : Int)) = true := decide_eq_true c2; clear c2
  by_cases c3 : ((l0.length : Int) : Int).toNat ≤ 5864062014805
  ·rw [if_pos c3] at H
   have c3b0:=eq_true c3;have c3b1:decide (((l0.length:Int):Int).toNat≤5864062014805)=true:=decide_eq_true c3;clear c3;obtain ⟨y285,hy285⟩:∃ y_:List (S51),y_=(List.replicate ((l0.length:Int):Int).toNat z51):=⟨_,rfl⟩
   replace H:(laws_toKidS.l0 k l0 y285 0)=some r:=by first|(rw [hy285];with_reducible exact H)|(have H2_:=(Option.bind_some _ _).symm.trans H;rw [hy285];with_reducible exact H2_)|(have H2_:=(Option.bind_some _ _).symm.trans H;with_reducible exact H2_)|with_reducible exact H|(rw [hy285];exact H)|exact H
   have Ny285 := D hy285; clear hy285; have H' := D H; clear H; go_enter Try.func41, Try.ntmps41
   go_wp2_with (first|((with_reducible refine gate_dst (N:=7) rfl ?_);refine Kd.R_make k51 _ 51 rfl (N:=7) rfl 32 _ _ rfl (l0.length:Int) rfl rfl Try.underlying32 (.agg #[(I L 0),(I L 0),(.bool false),(I L 0),(I L 0),(I L 0)]) 48 info51 rfl (by decide) (by omega) z51 (ok:=fun _=>True) (okp:=fun _=>True) (k51_mkM _ _ _ z51 ) (fun _ hk=>hk) trivial (od_ Z52) (Nat.le_trans (Nat.mul_le_mul_right _ (od_ Z52:(l0.length:Int).toNat≤5864062014805)) (by omega)) (Below.refl _ _) (Nat.le_refl _) ?_;intro v286 w4 ho5 hb hg_ hnew_;clear hg_ hnew_;(first|rw [← Ny285.out] at ho5|(simp only [Int.reduceToNat] at ho5;rw [← Ny285.out] at ho5));have n_:=an_ (Kd.R_lower ho5 (below_size (pB_ HB.out)))<|D (below_step (pB_ HB.out) hb);clear HB;obtain ⟨HO287,HB⟩:=n_;clear hb ho5))
   go_loopg [4] k (fun kq v4 w'=>∃ (x3_1:List (S51)) (x4_1:Int),v4=I L x4_1∧Aside0 (laws_toKidS.l0 kq l0 x3_1 x4_1=some r)∧Aside0 (kq≤k)∧Aside0 (Kd.R k51 51 w' w.heap.size (fun _=>True) v286 x3_1)∧Aside0 (Below w.heap.size w w'))
   case atStart => exact ⟨(y285), (0), Z53, H', ⟨Nat.le_refl _⟩, ⟨pR_ HO287.out⟩, ⟨pB_ HB.out⟩⟩
   case round =>
    clear H'
    (try clear c2);(try clear c2b0);(try clear c2b1);(try clear p2);(try clear c3);(try clear c3b0);(try clear c3b1);(try clear c4)
    obtain ⟨x3_1, x4_1, rfl, HA, HK1, HO_3, HB⟩ := hrel
    cases gk with
    | zero => exact absurd HA.out (by simp [laws_toKidS.l0])
    | succ k1 =>
     have H := HA.out; clear HA; simp only [laws_toKidS.l0] at H
     by_cases c6 : x4_1 < (l0.length : Int)
     ·rw [if_pos c6] at H
      have c6b0 : decide (x4_1 < (l0.length : Int)) = true := decide_eq_true c6; clear c6
      by_cases c7 : 0 ≤ x4_1
      ·rw [if_pos c7] at H
       have c7b0:decide (0≤x4_1)=true:=decide_eq_true c7;clear c7;obtain ⟨⟨t289,t290,t291,t292,t293,t294⟩,A80,H⟩:=bs_.mp H;(try dsimp only at H);have A8:=D A80;clear A80
       by_cases c9 : x4_1 < (x3_1.length : Int)
       ·rw [if_pos c9] at H
        have c9b0:decide (x4_1 < (x3_1.length:Int))=true:=decide_eq_true c9;clear c9;obtain ⟨y295,hy295⟩:∃ y_:List (S51),y_=(x3_1.set (x4_1:Int).toNat (⟨t289,t290,t291,(⟨t292,t293,t294⟩:S31)⟩:S51)):=⟨_,rfl⟩
        replace H:(laws_toKidS.l0 k1 l0 y295 (wrap64 (x4_1 + 1)))=some r:=by first|(rw [hy295];with_reducible exact H)|(have H2_:=(Option.bind_some _ _).symm.trans H;rw [hy295];with_reducible exact H2_)|(have H2_:=(Option.bind_some _ _).symm.trans H;with_reducible exact H2_)|with_reducible exact H|(rw [hy295];exact H)|exact H
        have Ny295:=D hy295;clear hy295;have H':=D H;clear H;have p288:0≤(x4_1:Int):=od_ Z52;have q288:x4_1 < (l0.length:Int):=od_ Z52;obtain ⟨ad288,e288,hx288_0,hx288_1,hx288_2,hx288_3,hx288_4,hx288_5⟩:=at_T89 HR0.out x4_1 p288 q288;cases e288;replace hx288_0:=rc_ HB.out hx288_0;replace hx288_1:=rc_ HB.out hx288_1;replace hx288_2:=rc_ HB.out hx288_2;replace hx288_3:=rc_ HB.out hx288_3;replace hx288_4:=rc_ HB.out hx288_4;replace hx288_5:=rc_ HB.out hx288_5;replace p288:=eq_true p288;replace q288:=eq_true q288
        go_wp2_with (first|((with_reducible refine gate_callee (f:=61) rfl ?_);refine goesL_ (some 20) rfl rfl Try.func61 (by kernel_rfl) rfl #[.agg #[I L ((rd_T89 l0 x4_1).f0),I L ((rd_T89 l0 x4_1).f1),.bool ((rd_T89 l0 x4_1).f2),I L ((rd_T89 l0 x4_1).f3.f0),I L ((rd_T89 l0 x4_1).f3.f1),I L ((rd_T89 l0 x4_1).f3.f2)]] rfl Z21 ?_;(with_reducible refine (laws_toKid.calls ((rd_T89 l0 x4_1).f0) ((rd_T89 l0 x4_1).f1) ((rd_T89 l0 x4_1).f2) ((rd_T89 l0 x4_1).f3.f0) ((rd_T89 l0 x4_1).f3.f1) ((rd_T89 l0 x4_1).f3.f2) t289 t290 t291 t292 t293 t294 _ A8.out).mono ?_);rintro e w11 ⟨rfl,hb⟩;refine ⟨_,rfl,?_⟩;have n_:=an_ (Kd.R_below (pR_ HO_3.out) hb)<|D (below_step (pB_ HB.out) hb);clear HO_3 HB;obtain ⟨HO_3,HB⟩:=n_;(try clear hb);have p10:0≤(x4_1:Int):=od_ Z52;have q10:(x4_1:Int) < ((x3_1.length:Int):Int):=od_ Z52;obtain ⟨go10,co10,eo10,gb10,gl10,cl10,HG10⟩:=Kd.R_form HO_3.out (by omega);(first|cases eo10|(injection eo10 with ea_ en_ ec_;(first|subst ea_|(injection ea_ with ea_;subst ea_));subst ec_;clear en_));have GB10:=D gb10;have GG10:=D HG10;clear gb10 gl10 HG10;obtain ⟨ce10,hcl10,hM10,hcc10,hfr10⟩:=Kd.R_elem HO_3.out z51 (x4_1:Int) p10 q10;obtain rfl:=k51_openM hM10;have hx10_0:w11.cell? ⟨go10,(x4_1:Int).toNat * 6,none⟩=some (I L ((rd_T51 x3_1 x4_1).f0)):=hcc10 0 _ rfl;have hx10_1:w11.cell? ⟨go10,(x4_1:Int).toNat * 6 + 1,none⟩=some (I L ((rd_T51 x3_1 x4_1).f1)):=hcc10 1 _ rfl;have hx10_2:w11.cell? ⟨go10,(x4_1:Int).toNat * 6 + 2,none⟩=some (.bool ((rd_T51 x3_1 x4_1).f2)):=hcc10 2 _ rfl;have hx10_3:w11.cell? ⟨go10,(x4_1:Int).toNat * 6 + 3,none⟩=some (I L ((rd_T51 x3_1 x4_1).f3.f0)):=hcc10 3 _ rfl;have hx10_4:w11.cell? ⟨go10,(x4_1:Int).toNat * 6 + 4,none⟩=some (I L ((rd_T51 x3_1 x4_1).f3.f1)):=hcc10 4 _ rfl;have hx10_5:w11.cell? ⟨go10,(x4_1:Int).toNat * 6 + 5,none⟩=some (I L ((rd_T51 x3_1 x4_1).f3.f2)):=hcc10 5 _ rfl;have hf10_0:w11.frozen? ⟨go10,(x4_1:Int).toNat * 6,none⟩=false:=hfr10 0;have hf10_1:w11.frozen? ⟨go10,(x4_1:Int).toNat * 6 + 1,none⟩=false:=hfr10 1;have hf10_2:w11.frozen? ⟨go10,(x4_1:Int).toNat * 6 + 2,none⟩=false:=hfr10 2;have hf10_3:w11.frozen? ⟨go10,(x4_1:Int).toNat * 6 + 3,none⟩=false:=hfr10 3;have hf10_4:w11.frozen? ⟨go10,(x4_1:Int).toNat * 6 + 4,none⟩=false:=hfr10 4;have hf10_5:w11.frozen? ⟨go10,(x4_1:Int).toNat * 6 + 5,none⟩=false:=hfr10 5;clear hcl10 hcc10 hfr10 hM10;replace p10:=eq_true p10;replace q10:=eq_true q10;have HX12:=D (show Kd.R k51 51 w11 w.heap.size (fun _=>True) (Y (some ⟨go10,0,none⟩) x3_1.length co10) x3_1 from (pR_ HO_3.out));obtain ⟨ce12,hcl12,hM12,hcc12,hfr12⟩:=Kd.R_elem HX12.out z51 (x4_1:Int) (od_ Z52) (by have h_:(x4_1:Int) < ((x3_1.length:Int):Int):=od_ Z52;first|exact h_|(have e_:=(Kd.R_reads' HO_3.out).1;omega)|simpa using h_);obtain rfl:=k51_openM hM12;have HP12:=Kd.R_seg HX12.out (x4_1:Int) (od_ Z52) (by have h_:(x4_1:Int) < ((x3_1.length:Int):Int):=od_ Z52;first|exact h_|(have e_:=(Kd.R_reads' HO_3.out).1;omega)|simpa using h_) (seg:=[I L t289,I L t290,.bool t291,I L t292,I L t293,I L t294]) (j:=0) hcl12 hcc12 (show 6≤6 from by decide) (x':=(⟨t289,t290,t291,(⟨t292,t293,t294⟩:S31)⟩:S51)) (k51_mkM _ _ _ (⟨t289,t290,t291,(⟨t292,t293,t294⟩:S31)⟩:S51) ) (fun _ hk=>hk);have hx12_0:=hcc12 0 _ rfl;(try simp only [show (k51).sz=6 from rfl,Nat.mul_one,Nat.add_zero] at hx12_0);have hf12_0:=hfr12 0;(try simp only [show (k51).sz=6 from rfl,Nat.mul_one,Nat.add_zero] at hf12_0);have hx12_1:=hcc12 1 _ rfl;(try simp only [show (k51).sz=6 from rfl,Nat.mul_one,Nat.add_zero] at hx12_1);have hf12_1:=hfr12 1;(try simp only [show (k51).sz=6 from rfl,Nat.mul_one,Nat.add_zero] at hf12_1);have hx12_2:=hcc12 2 _ rfl;(try simp only [show (k51).sz=6 from rfl,Nat.mul_one,Nat.add_zero] at hx12_2);have hf12_2:=hfr12 2;(try simp only [show (k51).sz=6 from rfl,Nat.mul_one,Nat.add_zero] at hf12_2);have hx12_3:=hcc12 3 _ rfl;(try simp only [show (k51).sz=6 from rfl,Nat.mul_one,Nat.add_zero] at hx12_3);have hf12_3:=hfr12 3;(try simp only [show (k51).sz=6 from rfl,Nat.mul_one,Nat.add_zero] at hf12_3);have hx12_4:=hcc12 4 _ rfl;(try simp only [show (k51).sz=6 from rfl,Nat.mul_one,Nat.add_zero] at hx12_4);have hf12_4:=hfr12 4;(try simp only [show (k51).sz=6 from rfl,Nat.mul_one,Nat.add_zero] at hf12_4);have hx12_5:=hcc12 5 _ rfl;(try simp only [show (k51).sz=6 from rfl,Nat.mul_one,Nat.add_zero] at hx12_5);have hf12_5:=hfr12 5;(try simp only [show (k51).sz=6 from rfl,Nat.mul_one,Nat.add_zero] at hf12_5);clear hcl12 hcc12 hfr12 hM12)|((with_reducible refine gate_store (t:=51) (p:=21) rfl ?_);refine store_event (t:=51) (p:=21) (v:=?vo_w13) (w1:=((((((w11.setCell ⟨go10,(x4_1:Int).toNat * 6,none⟩ (I L t289)).setCell ⟨go10,(x4_1:Int).toNat * 6 + 1,none⟩ (I L t290)).setCell ⟨go10,(x4_1:Int).toNat * 6 + 2,none⟩ (.bool t291)).setCell ⟨go10,(x4_1:Int).toNat * 6 + 3,none⟩ (I L t292)).setCell ⟨go10,(x4_1:Int).toNat * 6 + 4,none⟩ (I L t293)).setCell ⟨go10,(x4_1:Int).toNat * 6 + 5,none⟩ (I L t294))) ?hg ?ho ?hn ?hr ?_;(case ho=>rfl);(case hg=>rfl);(case hn=>rfl);(case hr=>first|(go_simp;done)|(go_simp;rfl));intro w13 hw;have hg:w11.grownBy w13 (some go10):=Z54;have hp_:Kd.R k51 51 w13 w.heap.size (fun _=>True) (Y (some ⟨go10,0,none⟩) x3_1.length co10) y295:=(by rw [hw,Ny295.out];exact HP12.1);clear HP12;have n_:=an_ (hp_)<|D (by rw [hw];exact below_set (below_set (below_set (below_set (below_set (below_set (HB.out) GB10.out) GB10.out) GB10.out) GB10.out) GB10.out) GB10.out:Below w.heap.size w w13);clear HO_3 HB;obtain ⟨HO_3,HB⟩:=n_;clear hg hw hp_))
        go_roundg k1
        case measure => have := HK1.out; omega
        case rel => exact ⟨(y295), (wrap64 (x4_1 + 1)), Z53, H', ⟨by have := HK1.out; omega⟩, ⟨pR_ HO_3.out⟩, ⟨pB_ HB.out⟩⟩
       ·rw [if_neg c9] at H
        exact absurd H (by simp)
      ·rw [if_neg c7] at H
       exact absurd H (by simp)
     ·rw [if_neg c6] at H
      have c6b0 : decide (x4_1 < (l0.length : Int)) = false := decide_eq_false c6; clear c6; obtain rfl := Option.some.inj H
      go_wp2
      go_ret;exact ⟨_,er_,by (with_reducible repeat (first|apply Kd.R_alloc|apply Kd.R_drewN|apply Kd.R_drew));exact HO_3.out,pB_ HB.out⟩
  ·rw [if_neg c3] at H
   exact absurd H (by simp)
 ·rw [if_neg c2] at H
  exact absurd H (by simp)

/-! ### laws_toFair: function 18 -/
def laws_toFair.f (k : Nat) (a0_0 a0_1 a0_2 a0_3 : Int) (l0_4 : List (S89)) : Option (Int × Int × Int × Int × (List (S51))) := (laws_toVec.f a0_1 a0_2 a0_3).bind fun bt299 => ((laws_toKidS.f k l0_4).bind fun t302 => (some (a0_0, bt299.1, bt299.2.1, bt299.2.2, t302)))
set_option maxHeartbeats 8000000 in
set_option maxRecDepth 100000 in
theorem laws_toFair.calls (k : Nat) (a0_0 a0_1 a0_2 a0_3 : Int) (A0_4 : Option Addr) (c0_4 : Nat) (l0_4 : List (S89)) (r1 r2 r3 r4 : Int) (r5 : List (S51)) (w : World) (hr0_4 : Kd.C k89 w A0_4 l0_4.length l0_4) (hc0_4 : l0_4.length ≤ c0_4) (h : laws_toFair.f k a0_0 a0_1 a0_2 a0_3 l0_4 = some (r1, r2, r3, r4, r5)) :
  Calls Try.prog 18 #[.agg #[I L a0_0,I L a0_1,I L a0_2,I L a0_3,Y A0_4 l0_4.length c0_4]] w fun e w'=>∃ v4_:Value,e=.returned (.agg #[I L r1,I L r2,I L r3,I L r4,v4_])∧Kd.R k51 51 w' w.heap.size (fun _=>True) v4_ r5∧Below w.heap.size w w':=by
 have hu26 := Try.underlying26
 have hu34 := Try.underlying34
 have hu23 := Try.underlying23
 have hu31 := Try.underlying31
 have HR0_4 := D hr0_4
 have HC0_4 := D hc0_4
 clear hr0_4 hc0_4
 have HB := D (Below.refl w.heap.size w)
 have H : ((laws_toVec.f a0_1 a0_2 a0_3).bind fun bt299 => ((laws_toKidS.f k l0_4).bind fun t302 => (some (a0_0, bt299.1, bt299.2.1, bt299.2.2, t302)))) = some (r1, r2, r3, r4, r5) := h
 clear h
 obtain ⟨⟨t299, t300, t301⟩, A20, H⟩ := bs_.mp H
 (try dsimp only at H)
 have A2 := D A20
 clear A20
 obtain ⟨t302, A30, H⟩ := bs_.mp H
 (try dsimp only at H)
 have A3 := D A30
 clear A30
 simp only [Option.some.injEq, Prod.mk.injEq] at H
 obtain ⟨rfl, rfl, rfl, rfl, rfl⟩ := H
 go_enter Try.func18, Try.ntmps18
 go_wp2_with (first|((with_reducible refine gate_dst (N:=1) rfl ?_);refine bx_ (N:=1) (cs:=#[I L a0_0,I L a0_1,I L a0_2,I L a0_3,Y A0_4 l0_4.length c0_4]) (t:=26) ?_;intro gb296 hg w4 hbox hb;have n_:=an_ (below_step (pB_ HB.out) hb)<|an_ (hbox)<|an_ (bg_ hg (pB_ HB.out):w.heap.size≤gb296)<|D (bg_ hg (pB_ HB.out):w.heap.size≤gb296);clear HB;obtain ⟨HB,BK296,GW296,GE296⟩:=n_;clear hb hbox hg)|((with_reducible refine gate_dst (N:=2) rfl ?_);refine bx_ (N:=2) (cs:=#[I L 0,I L 0,I L 0,I L 0,Y none 0 0]) (t:=34) ?_;intro gb297 hg w5 hbox hb;have n_:=an_ (blk_below (pk_ BK296.out) hb)<|an_ (below_step (pB_ HB.out) hb)<|an_ (hbox)<|an_ (bg_ hg (pB_ HB.out):w.heap.size≤gb297)<|an_ (bg_ hg (pB_ HB.out):w.heap.size≤gb297)<|an_ (nl_ hg (pk_ BK296.out):gb296≠gb297)<|D (by rw [hg];exact Nat.ne_of_gt (blk_lt (pk_ BK296.out)):gb297≠gb296);clear BK296 HB;obtain ⟨BK296,HB,BK297,GW297,GE297,NB296_297,NB297_296⟩:=n_;clear hb hbox hg)|((with_reducible refine gate_dst (N:=3) rfl ?_);refine bx_ (N:=3) (cs:=#[I L 0,I L 0,I L 0,I L 0,Y none 0 0]) (t:=34) ?_;intro gb298 hg w6 hbox hb;have n_:=an_ (blk_below (pk_ BK296.out) hb)<|an_ (blk_below (pk_ BK297.out) hb)<|an_ (below_step (pB_ HB.out) hb)<|an_ (hbox)<|an_ (bg_ hg (pB_ HB.out):w.heap.size≤gb298)<|an_ (bg_ hg (pB_ HB.out):w.heap.size≤gb298)<|an_ (nl_ hg (pk_ BK296.out):gb296≠gb298)<|an_ (ng_ hg (pk_ BK296.out):gb298≠gb296)<|an_ (nl_ hg (pk_ BK297.out):gb297≠gb298)<|D (by rw [hg];exact Nat.ne_of_gt (blk_lt (pk_ BK297.out)):gb298≠gb297);clear BK296 BK297 HB;obtain ⟨BK296,BK297,HB,BK298,GW298,GE298,NB296_298,NB298_296,NB297_298,NB298_297⟩:=n_;clear hb hbox hg;(try have:=NB296_297.out);(try have:=NB297_296.out);(try have:=NB296_298.out);(try have:=NB298_296.out);have hcz9_0:=cells5 BK296.out;(try have:=NB298_297.out);(try have:=NB297_298.out);have hcz11_0:=cells5 BK298.out)|((with_reducible refine gate_callee (f:=40) rfl ?_);refine goesL_ (some 9) rfl rfl Try.func40 (by kernel_rfl) rfl #[.agg #[I L a0_1,I L a0_2,I L a0_3]] rfl Z21 ?_;(with_reducible refine (laws_toVec.calls a0_1 a0_2 a0_3 t299 t300 t301 _ A2.out).mono ?_);rintro e w12 ⟨rfl,hb⟩;refine ⟨_,rfl,?_⟩;have n_:=an_ (blk_below (g:=gb296) (o:=.cells #[I L a0_0,I L a0_1,I L a0_2,I L a0_3,Y A0_4 l0_4.length c0_4] 26 (0,0)) (by exact pP_ BK296.out) hb)<|an_ (blk_below (g:=gb297) (o:=.cells #[I L 0,I L 0,I L 0,I L 0,Y none 0 0] 34 (0,0)) (by exact pP_ BK297.out) hb)<|an_ (blk_below (g:=gb298) (o:=.cells #[I L a0_0,I L 0,I L 0,I L 0,Y none 0 0] 34 (0,0)) (by exact pP_ BK298.out) hb)<|D (below_step (pB_ HB.out) hb);clear BK296 BK297 BK298 HB;obtain ⟨BK296,BK297,BK298,HB⟩:=n_;(try clear hb);have hcz13_0:=cells5 BK298.out;have hcz14_0:=cells5 BK296.out)|((with_reducible refine gate_callee (f:=41) rfl ?_);refine goesL_ (some 13) rfl rfl Try.func41 (by kernel_rfl) rfl #[Y A0_4 l0_4.length c0_4] rfl Z21 ?_;(with_reducible refine (laws_toKidS.calls k _ _ l0_4 t302 _ ?side1 ?side2 A3.out).mono ?_);(case side1=>exact Kd.C_below HR0_4.out (pB_ HB.out));(case side2=>exact HC0_4.out);rintro e w15 ⟨v303,rfl,ho0,hb⟩;refine ⟨_,rfl,?_⟩;have n_:=an_ (Kd.R_lower ho0 (below_size (pB_ HB.out)))<|an_ (blk_below (g:=gb296) (o:=.cells #[I L a0_0,I L a0_1,I L a0_2,I L a0_3,Y A0_4 l0_4.length c0_4] 26 (0,0)) (by exact pP_ BK296.out) hb)<|an_ (blk_below (g:=gb297) (o:=.cells #[I L 0,I L 0,I L 0,I L 0,Y none 0 0] 34 (0,0)) (by exact pP_ BK297.out) hb)<|an_ (blk_below (g:=gb298) (o:=.cells #[I L a0_0,I L t299,I L t300,I L t301,Y none 0 0] 34 (0,0)) (by exact pP_ BK298.out) hb)<|D (below_step (pB_ HB.out) hb);clear BK296 BK297 BK298 HB;obtain ⟨HO304,BK296,BK297,BK298,HB⟩:=n_;(try clear hb);(try clear ho0);obtain ⟨Ao16,co16,eo16⟩:=Kd.R_slice HO304.out;subst eo16;have hcz17_0:=cells5 BK298.out;have hcz18_0:=cells5 BK297.out))
 refine bodyPost_ret (results_cell_row rfl _ _ gb297 34 #[I L a0_0,I L t299,I L t300,I L t301,Y Ao16 t302.length co16] (0,0) _ rfl (by exact pP_ BK297.out) Try.underlying34 rfl (by kernel_rfl)) rfl ?_
 exact ⟨_,er_,by (with_reducible repeat (first|apply Kd.R_alloc|apply Kd.R_drewN|apply Kd.R_drew));exact Kd.R_mono (fr_ (fr_ (fr_ (fr_ (fr_ (Kd.R_far (p:=⟨gb298,4,none⟩) (Kd.R_types (Kd.R_types HO304.out BK298.out (by decide)) BK297.out (by decide)) (fun _ hk=>hk.1.2) (Y Ao16 t302.length co16)) 0 (I L a0_0)) 1 (I L t299)) 2 (I L t300)) 3 (I L t301)) 4 (Y Ao16 t302.length co16)) (fun _ hk=>trivial),pB_ HB.out⟩

/-! ### laws_toBranch: function 42 -/
def laws_toBranch.f (k : Nat) (a0_0 a0_1 a0_2 a0_3 a0_4 : Int) (l0_5 : List (S89)) : Option (Int × Int × Int × Int × Int × (List (S51))) := (laws_toFair.f k a0_1 a0_2 a0_3 a0_4 l0_5).bind fun bt308 => (some (a0_0, bt308.1, bt308.2.1, bt308.2.2.1, bt308.2.2.2.1, bt308.2.2.2.2))
set_option maxHeartbeats 8000000 in
set_option maxRecDepth 100000 in
theorem laws_toBranch.calls (k : Nat) (a0_0 a0_1 a0_2 a0_3 a0_4 : Int) (A0_5 : Option Addr) (c0_5 : Nat) (l0_5 : List (S89)) (r1 r2 r3 r4 r5 : Int) (r6 : List (S51)) (w : World) (hr0_5 : Kd.C k89 w A0_5 l0_5.length l0_5) (hc0_5 : l0_5.length ≤ c0_5) (h : laws_toBranch.f k a0_0 a0_1 a0_2 a0_3 a0_4 l0_5 = some (r1, r2, r3, r4, r5, r6)) :
  Calls Try.prog 42 #[.agg #[I L a0_0,I L a0_1,I L a0_2,I L a0_3,I L a0_4,Y A0_5 l0_5.length c0_5]] w fun e w'=>∃ v5_:Value,e=.returned (.agg #[I L r1,I L r2,I L r3,I L r4,I L r5,v5_])∧Kd.R k51 51 w' w.heap.size (fun _=>True) v5_ r6∧Below w.heap.size w w':=by
 have hu67 := Try.underlying67
 have hu54 := Try.underlying54
 have hu26 := Try.underlying26
 have hu34 := Try.underlying34
 have HR0_5 := D hr0_5
 have HC0_5 := D hc0_5
 clear hr0_5 hc0_5
 have HB := D (Below.refl w.heap.size w)
 have H : ((laws_toFair.f k a0_1 a0_2 a0_3 a0_4 l0_5).bind fun bt308 => (some (a0_0, bt308.1, bt308.2.1, bt308.2.2.1, bt308.2.2.2.1, bt308.2.2.2.2))) = some (r1, r2, r3, r4, r5, r6) := h
 clear h
 obtain ⟨⟨t308, t309, t310, t311, t312⟩, A20, H⟩ := bs_.mp H
 (try dsimp only at H)
 have A2 := D A20
 clear A20
 simp only [Option.some.injEq, Prod.mk.injEq] at H
 obtain ⟨rfl, rfl, rfl, rfl, rfl, rfl⟩ := H
 go_enter Try.func42, Try.ntmps42
 go_wp2_with (first|((with_reducible refine gate_dst (N:=1) rfl ?_);refine bx_ (N:=1) (cs:=#[I L a0_0,I L a0_1,I L a0_2,I L a0_3,I L a0_4,Y A0_5 l0_5.length c0_5]) (t:=67) ?_;intro gb305 hg w3 hbox hb;have n_:=an_ (below_step (pB_ HB.out) hb)<|an_ (hbox)<|an_ (bg_ hg (pB_ HB.out):w.heap.size≤gb305)<|D (bg_ hg (pB_ HB.out):w.heap.size≤gb305);clear HB;obtain ⟨HB,BK305,GW305,GE305⟩:=n_;clear hb hbox hg)|((with_reducible refine gate_dst (N:=2) rfl ?_);refine bx_ (N:=2) (cs:=#[I L 0,I L 0,I L 0,I L 0,I L 0,Y none 0 0]) (t:=54) ?_;intro gb306 hg w4 hbox hb;have n_:=an_ (blk_below (pk_ BK305.out) hb)<|an_ (below_step (pB_ HB.out) hb)<|an_ (hbox)<|an_ (bg_ hg (pB_ HB.out):w.heap.size≤gb306)<|an_ (bg_ hg (pB_ HB.out):w.heap.size≤gb306)<|an_ (nl_ hg (pk_ BK305.out):gb305≠gb306)<|D (by rw [hg];exact Nat.ne_of_gt (blk_lt (pk_ BK305.out)):gb306≠gb305);clear BK305 HB;obtain ⟨BK305,HB,BK306,GW306,GE306,NB305_306,NB306_305⟩:=n_;clear hb hbox hg)|((with_reducible refine gate_dst (N:=3) rfl ?_);refine bx_ (N:=3) (cs:=#[I L 0,I L 0,I L 0,I L 0,I L 0,Y none 0 0]) (t:=54) ?_;intro gb307 hg w5 hbox hb;have n_:=an_ (blk_below (pk_ BK305.out) hb)<|an_ (blk_below (pk_ BK306.out) hb)<|an_ (below_step (pB_ HB.out) hb)<|an_ (hbox)<|an_ (bg_ hg (pB_ HB.out):w.heap.size≤gb307)<|an_ (bg_ hg (pB_ HB.out):w.heap.size≤gb307)<|an_ (nl_ hg (pk_ BK305.out):gb305≠gb307)<|an_ (ng_ hg (pk_ BK305.out):gb307≠gb305)<|an_ (nl_ hg (pk_ BK306.out):gb306≠gb307)<|D (by rw [hg];exact Nat.ne_of_gt (blk_lt (pk_ BK306.out)):gb307≠gb306);clear BK305 BK306 HB;obtain ⟨BK305,BK306,HB,BK307,GW307,GE307,NB305_307,NB307_305,NB306_307,NB307_306⟩:=n_;clear hb hbox hg;(try have:=NB305_306.out);(try have:=NB306_305.out);(try have:=NB305_307.out);(try have:=NB307_305.out);have hcz8_0:=cells6 BK305.out;(try have:=NB307_306.out);(try have:=NB306_307.out);have hcz10_0:=cells6 BK307.out)|((with_reducible refine gate_callee (f:=18) rfl ?_);refine goesL_ (some 9) rfl rfl Try.func18 (by kernel_rfl) rfl #[.agg #[I L a0_1,I L a0_2,I L a0_3,I L a0_4,Y A0_5 l0_5.length c0_5]] rfl Z21 ?_;(with_reducible refine (laws_toFair.calls k a0_1 a0_2 a0_3 a0_4 _ _ l0_5 t308 t309 t310 t311 t312 _ ?side1 ?side2 A2.out).mono ?_);(case side1=>exact Kd.C_below HR0_5.out (pB_ HB.out));(case side2=>exact HC0_5.out);rintro e w11 ⟨v313,rfl,ho0,hb⟩;refine ⟨_,rfl,?_⟩;have n_:=an_ (Kd.R_lower ho0 (below_size (pB_ HB.out)))<|an_ (blk_below (g:=gb305) (o:=.cells #[I L a0_0,I L a0_1,I L a0_2,I L a0_3,I L a0_4,Y A0_5 l0_5.length c0_5] 67 (0,0)) (by exact pP_ BK305.out) hb)<|an_ (blk_below (g:=gb306) (o:=.cells #[I L 0,I L 0,I L 0,I L 0,I L 0,Y none 0 0] 54 (0,0)) (by exact pP_ BK306.out) hb)<|an_ (blk_below (g:=gb307) (o:=.cells #[I L a0_0,I L 0,I L 0,I L 0,I L 0,Y none 0 0] 54 (0,0)) (by exact pP_ BK307.out) hb)<|D (below_step (pB_ HB.out) hb);clear BK305 BK306 BK307 HB;obtain ⟨HO314,BK305,BK306,BK307,HB⟩:=n_;(try clear hb);(try clear ho0);have hcz12_0:=cells6 BK307.out;obtain ⟨Ao13,co13,eo13⟩:=Kd.R_slice HO314.out;subst eo13;have hcz14_0:=cells6 BK306.out))
 refine bodyPost_ret (results_cell_row rfl _ _ gb306 54 #[I L a0_0,I L t308,I L t309,I L t310,I L t311,Y Ao13 t312.length co13] (0,0) _ rfl (by exact pP_ BK306.out) Try.underlying54 rfl (by kernel_rfl)) rfl ?_
 exact ⟨_,er_,by (with_reducible repeat (first|apply Kd.R_alloc|apply Kd.R_drewN|apply Kd.R_drew));exact Kd.R_mono (fr_ (fr_ (fr_ (fr_ (fr_ (fr_ (Kd.R_far (p:=⟨gb307,5,none⟩) (Kd.R_far (p:=⟨gb307,4,none⟩) (Kd.R_far (p:=⟨gb307,3,none⟩) (Kd.R_far (p:=⟨gb307,2,none⟩) (Kd.R_far (p:=⟨gb307,1,none⟩) (Kd.R_types (Kd.R_types HO314.out BK307.out (by decide)) BK306.out (by decide)) (fun _ hk=>hk.1.2) (I L t308)) (fun _ hk=>hk.1.2) (I L t309)) (fun _ hk=>hk.1.2) (I L t310)) (fun _ hk=>hk.1.2) (I L t311)) (fun _ hk=>hk.1.2) (Y Ao13 t312.length co13)) 0 (I L a0_0)) 1 (I L t308)) 2 (I L t309)) 3 (I L t310)) 4 (I L t311)) 5 (Y Ao13 t312.length co13)) (fun _ hk=>trivial),pB_ HB.out⟩

/-! ### laws_toBranchS: function 19 -/
def laws_toBranchS.l0 : Nat → List (S67) → List (S54) → Int → Option ((List (S54)))
 | 0, _, _, _ => none
 | k + 1,x0,x3,x4=>if x4 < (x0.length:Int) then (if 0≤x4 then ((laws_toBranch.f k ((rd_T67 x0 x4).f0) ((rd_T67 x0 x4).f1.f0) ((rd_T67 x0 x4).f1.f1.f0) ((rd_T67 x0 x4).f1.f1.f1) ((rd_T67 x0 x4).f1.f1.f2) ((rd_T67 x0 x4).f1.f2)).bind fun bt319=>(if x4 < (x3.length:Int) then (laws_toBranchS.l0 k x0 (x3.set (x4:Int).toNat (⟨bt319.1,(⟨bt319.2.1,(⟨bt319.2.2.1,bt319.2.2.2.1,bt319.2.2.2.2.1⟩:S31),bt319.2.2.2.2.2⟩:S34)⟩:S54)) (wrap64 (x4 + 1))) else (none))) else (none)) else (some x3)
def laws_toBranchS.f (k : Nat) (l0 : List (S67)) : Option ((List (S54))) := if 0 ≤ (l0.length : Int) then (if ((l0.length : Int) : Int).toNat ≤ 4398046511104 then (laws_toBranchS.l0 k l0 (List.replicate ((l0.length : Int) : Int).toNat z54) 0) else (none)) else (none)
set_option maxHeartbeats 8000000 in
set_option maxRecDepth 100000 in
theorem laws_toBranchS.calls (k : Nat) (A0 : Option Addr) (c0 : Nat) (l0 : List (S67)) (r : List (S54)) (w : World) (hr0 : Kd.C k67 w A0 l0.length l0) (hc0 : l0.length ≤ c0) (h : laws_toBranchS.f k l0 = some r) :
  Calls Try.prog 19 #[Y A0 l0.length c0] w fun e w' => ∃ v0_ : Value, e = .returned (v0_) ∧ Kd.S k54 54 w' w.heap.size (fun _ => True) v0_ r ∧ Below w.heap.size w w' := by
 have hu67 := Try.underlying67
 have hu54 := Try.underlying54
 have HR0 := D hr0
 have HC0 := D hc0
 clear hr0 hc0
 have HB := D (Below.refl w.heap.size w)
 have H:(if 0≤(l0.length:Int) then (if ((l0.length:Int):Int).toNat≤4398046511104 then (laws_toBranchS.l0 k l0 (List.replicate ((l0.length:Int):Int).toNat z54) 0) else (none)) else (none))=some r:=h
 clear h
 by_cases c2 : 0 ≤ (l0.length : Int)
 ·rw [if_pos c2] at H
  have c2b0 := eq_true c2; have c2b1 : decide (0 ≤ (l0.length : Int)) = true := decide_eq_true c2; clear c2
  by_cases c3 : ((l0.length : Int) : Int).toNat ≤ 4398046511104
  ·rw [if_pos c3] at H
   have c3b0:=eq_true c3;have c3b1:decide (((l0.length:Int):Int).toNat≤4398046511104)=true:=decide_eq_true c3;clear c3;obtain ⟨y315,hy315⟩:∃ y_:List (S54),y_=(List.replicate ((l0.length:Int):Int).toNat z54):=⟨_,rfl⟩
   replace H:(laws_toBranchS.l0 k l0 y315 0)=some r:=by first|(rw [hy315];with_reducible exact H)|(have H2_:=(Option.bind_some _ _).symm.trans H;rw [hy315];with_reducible exact H2_)|(have H2_:=(Option.bind_some _ _).symm.trans H;with_reducible exact H2_)|with_reducible exact H|(rw [hy315];exact H)|exact H
   have Ny315 := D hy315; clear hy315; have H' := D H; clear H; go_enter Try.func19, Try.ntmps19
   go_wp2_with (first|((with_reducible refine gate_dst (N:=7) rfl ?_);refine Kd.S_make k54 _ 54 rfl (N:=7) rfl 35 _ _ rfl (l0.length:Int) rfl rfl Try.underlying35 (.agg #[(I L 0),(I L 0),(I L 0),(I L 0),(I L 0),(Y none 0 0)]) 64 info54 rfl (by decide) (by omega) z54 (ok:=fun _=>True) (okp:=fun _=>True) (k54_mkM _ _ _ z54 (Kd.R_nil _ _ _ _ _)) (fun _ hk=>hk) trivial (od_ Z52) (Nat.le_trans (Nat.mul_le_mul_right _ (od_ Z52:(l0.length:Int).toNat≤4398046511104)) (by omega)) (Below.refl _ _) (Nat.le_refl _) ?_;intro v316 w4 ho5 hb hg_ hnew_;clear hg_ hnew_;(first|rw [← Ny315.out] at ho5|(simp only [Int.reduceToNat] at ho5;rw [← Ny315.out] at ho5));have n_:=an_ (Kd.S_lower ho5 (below_size (pB_ HB.out)))<|D (below_step (pB_ HB.out) hb);clear HB;obtain ⟨HO317,HB⟩:=n_;clear hb ho5))
   go_loopg [4] k (fun kq v4 w'=>∃ (x3_1:List (S54)) (x4_1:Int),v4=I L x4_1∧Aside0 (laws_toBranchS.l0 kq l0 x3_1 x4_1=some r)∧Aside0 (kq≤k)∧Aside0 (Kd.S k54 54 w' w.heap.size (fun _=>True) v316 x3_1)∧Aside0 (Below w.heap.size w w'))
   case atStart => exact ⟨(y315), (0), Z53, H', ⟨Nat.le_refl _⟩, ⟨pS_ HO317.out⟩, ⟨pB_ HB.out⟩⟩
   case round =>
    clear H'
    (try clear c1);(try clear c2);(try clear c2b0);(try clear c2b1);(try clear p2);(try clear c3);(try clear c3b0);(try clear c3b1)
    obtain ⟨x3_1, x4_1, rfl, HA, HK1, HO_3, HB⟩ := hrel
    cases gk with
    | zero => exact absurd HA.out (by simp [laws_toBranchS.l0])
    | succ k1 =>
     have H := HA.out; clear HA; simp only [laws_toBranchS.l0] at H
     by_cases c6 : x4_1 < (l0.length : Int)
     ·rw [if_pos c6] at H
      have c6b0 : decide (x4_1 < (l0.length : Int)) = true := decide_eq_true c6; clear c6
      by_cases c7 : 0 ≤ x4_1
      ·rw [if_pos c7] at H
       have c7b0:decide (0≤x4_1)=true:=decide_eq_true c7;clear c7;obtain ⟨⟨t319,t320,t321,t322,t323,t324⟩,A80,H⟩:=bs_.mp H;(try dsimp only at H);have A8:=D A80;clear A80
       by_cases c9 : x4_1 < (x3_1.length : Int)
       ·rw [if_pos c9] at H
        have c9b0:decide (x4_1 < (x3_1.length:Int))=true:=decide_eq_true c9;clear c9;obtain ⟨y327,hy327⟩:∃ y_:List (S54),y_=(x3_1.set (x4_1:Int).toNat (⟨t319,(⟨t320,(⟨t321,t322,t323⟩:S31),t324⟩:S34)⟩:S54)):=⟨_,rfl⟩
        replace H:(laws_toBranchS.l0 k1 l0 y327 (wrap64 (x4_1 + 1)))=some r:=by first|(rw [hy327];with_reducible exact H)|(have H2_:=(Option.bind_some _ _).symm.trans H;rw [hy327];with_reducible exact H2_)|(have H2_:=(Option.bind_some _ _).symm.trans H;with_reducible exact H2_)|with_reducible exact H|(rw [hy327];exact H)|exact H
        have Ny327:=D hy327;clear hy327;have H':=D H;clear H;have p318:0≤(x4_1:Int):=od_ Z52;have q318:x4_1 < (l0.length:Int):=od_ Z52;obtain ⟨ad318,A318_5,c318_5,e318,hx318_0,hx318_1,hx318_2,hx318_3,hx318_4,hx318_5,hl318_5,hi318_5⟩:=at_T67 HR0.out x4_1 p318 q318;cases e318;replace hx318_0:=rc_ HB.out hx318_0;replace hx318_1:=rc_ HB.out hx318_1;replace hx318_2:=rc_ HB.out hx318_2;replace hx318_3:=rc_ HB.out hx318_3;replace hx318_4:=rc_ HB.out hx318_4;replace hx318_5:=rc_ HB.out hx318_5;have HR318_5:=D hi318_5;have HC318_5:=D hl318_5;clear hi318_5 hl318_5;replace p318:=eq_true p318;replace q318:=eq_true q318
        go_wp2_with (first|((with_reducible refine gate_callee (f:=42) rfl ?_);refine goesL_ (some 20) rfl rfl Try.func42 (by kernel_rfl) rfl #[.agg #[I L ((rd_T67 l0 x4_1).f0),I L ((rd_T67 l0 x4_1).f1.f0),I L ((rd_T67 l0 x4_1).f1.f1.f0),I L ((rd_T67 l0 x4_1).f1.f1.f1),I L ((rd_T67 l0 x4_1).f1.f1.f2),Y A318_5 ((rd_T67 l0 x4_1).f1.f2).length c318_5]] rfl Z21 ?_;(with_reducible refine (laws_toBranch.calls k1 ((rd_T67 l0 x4_1).f0) ((rd_T67 l0 x4_1).f1.f0) ((rd_T67 l0 x4_1).f1.f1.f0) ((rd_T67 l0 x4_1).f1.f1.f1) ((rd_T67 l0 x4_1).f1.f1.f2) _ _ ((rd_T67 l0 x4_1).f1.f2) t319 t320 t321 t322 t323 t324 _ ?side1 ?side2 A8.out).mono ?_);(case side1=>exact pC_ (Kd.C_below HR318_5.out HB.out));(case side2=>exact HC318_5.out);rintro e w11 ⟨v325,rfl,ho0,hb⟩;refine ⟨_,rfl,?_⟩;have n_:=an_ (Kd.S_elder' (pS_ HO_3.out) (Kd.R_base ho0) hb)<|an_ (Kd.R_lower ho0 (below_size (pB_ HB.out)))<|D (below_step (pB_ HB.out) hb);clear HO_3 HB;obtain ⟨HO_3,HO326,HB⟩:=n_;(try clear hb);(try clear ho0);have p10:0≤(x4_1:Int):=od_ Z52;have q10:(x4_1:Int) < ((x3_1.length:Int):Int):=od_ Z52;obtain ⟨go10,co10,eo10,gb10,gl10,cl10,HG10⟩:=Kd.S_form HO_3.out (by omega);(first|cases eo10|(injection eo10 with ea_ en_ ec_;(first|subst ea_|(injection ea_ with ea_;subst ea_));subst ec_;clear en_));have GB10:=D gb10;have GG10:=D HG10;clear gb10 gl10 HG10;obtain ⟨_,ce10,hcl10,hM10,hcc10,hfr10,_,_⟩:=Kd.S_elem HO_3.out z54 (x4_1:Int) p10 q10;obtain ⟨ve10_5,rfl,ge10_5⟩:=k54_openM hM10;have hx10_0:w11.cell? ⟨go10,(x4_1:Int).toNat * 6,none⟩=some (I L ((rd_T54 x3_1 x4_1).f0)):=hcc10 0 _ rfl;have hx10_1:w11.cell? ⟨go10,(x4_1:Int).toNat * 6 + 1,none⟩=some (I L ((rd_T54 x3_1 x4_1).f1.f0)):=hcc10 1 _ rfl;have hx10_2:w11.cell? ⟨go10,(x4_1:Int).toNat * 6 + 2,none⟩=some (I L ((rd_T54 x3_1 x4_1).f1.f1.f0)):=hcc10 2 _ rfl;have hx10_3:w11.cell? ⟨go10,(x4_1:Int).toNat * 6 + 3,none⟩=some (I L ((rd_T54 x3_1 x4_1).f1.f1.f1)):=hcc10 3 _ rfl;have hx10_4:w11.cell? ⟨go10,(x4_1:Int).toNat * 6 + 4,none⟩=some (I L ((rd_T54 x3_1 x4_1).f1.f1.f2)):=hcc10 4 _ rfl;have hx10_5:w11.cell? ⟨go10,(x4_1:Int).toNat * 6 + 5,none⟩=some (ve10_5):=hcc10 5 _ rfl;have hf10_0:w11.frozen? ⟨go10,(x4_1:Int).toNat * 6,none⟩=false:=hfr10 0;have hf10_1:w11.frozen? ⟨go10,(x4_1:Int).toNat * 6 + 1,none⟩=false:=hfr10 1;have hf10_2:w11.frozen? ⟨go10,(x4_1:Int).toNat * 6 + 2,none⟩=false:=hfr10 2;have hf10_3:w11.frozen? ⟨go10,(x4_1:Int).toNat * 6 + 3,none⟩=false:=hfr10 3;have hf10_4:w11.frozen? ⟨go10,(x4_1:Int).toNat * 6 + 4,none⟩=false:=hfr10 4;have hf10_5:w11.frozen? ⟨go10,(x4_1:Int).toNat * 6 + 5,none⟩=false:=hfr10 5;clear hcl10 hcc10 hfr10 hM10;replace p10:=eq_true p10;replace q10:=eq_true q10;have n_:=D (Kd.S_mono (ok':=(fun k_=>some k_≠(v325:Value).ownBlock)) HO_3.out (fun k_ hk=>hk.2));clear HO_3;have HO_3:=n_;clear n_;have HX12:=D (show Kd.S k54 54 w11 w.heap.size (fun k_=>((fun _=>True)) k_∧¬ ((fun k_=>some k_=(v325:Value).ownBlock)) k_) (Y (some ⟨go10,0,none⟩) x3_1.length co10) x3_1 from (pS_ (Kd.S_mono HO_3.out (fun k_ hk=>⟨trivial,fun e_=>hk e_⟩))));obtain ⟨oki12,ce12,hcl12,hM12,hcc12,hfr12,hoki12,hH12⟩:=Kd.S_elem HX12.out z54 (x4_1:Int) (od_ Z52) (by have h_:(x4_1:Int) < ((x3_1.length:Int):Int):=od_ Z52;first|exact h_|(have e_:=(Kd.S_reads' HO_3.out).1;omega)|simpa using h_);obtain ⟨ve12_5,rfl,ge12_5⟩:=k54_openM hM12;have HP12:=Kd.S_seg hH12 (od_ Z52) (by have h_:(x4_1:Int) < ((x3_1.length:Int):Int):=od_ Z52;first|exact h_|(have e_:=(Kd.S_reads' HO_3.out).1;omega)|simpa using h_) (seg:=[I L t319,I L t320,I L t321,I L t322,I L t323,v325]) (j:=0) (show 6≤6 from by decide) (x':=(⟨t319,(⟨t320,(⟨t321,t322,t323⟩:S31),t324⟩:S34)⟩:S54)) (k54_mkM _ _ _ (⟨t319,(⟨t320,(⟨t321,t322,t323⟩:S31),t324⟩:S34)⟩:S54) (Kd.R_mono (Kd.R_tight rfl (Kd.R_mono (ok':=fun k_=>((fun _=>True)) k_∧k_≠go10) (Kd.R_apart' (HO326.out) (Kd.S_typed HO_3.out) (by decide)) (fun k_ hk=>⟨trivial,fun e_=>(hk.2) (by rw [e_];rfl)⟩))) (fun _ h_=>Or.inr (h_)))) (fun _ hk=>hk) (fun k_ hk_=>((Kd.R_mono (ok':=fun k_=>((fun _=>True)) k_∧k_≠go10) (Kd.R_apart' (HO326.out) (Kd.S_typed HO_3.out) (by decide)) (fun k_ hk=>⟨trivial,fun e_=>(hk.2) (by rw [e_];rfl)⟩))).1 k_ hk_.symm);have hx12_0:=hcc12 0 _ rfl;(try simp only [show (k54).sz=6 from rfl,Nat.mul_one,Nat.add_zero] at hx12_0);have hf12_0:=hfr12 0;(try simp only [show (k54).sz=6 from rfl,Nat.mul_one,Nat.add_zero] at hf12_0);have hx12_1:=hcc12 1 _ rfl;(try simp only [show (k54).sz=6 from rfl,Nat.mul_one,Nat.add_zero] at hx12_1);have hf12_1:=hfr12 1;(try simp only [show (k54).sz=6 from rfl,Nat.mul_one,Nat.add_zero] at hf12_1);have hx12_2:=hcc12 2 _ rfl;(try simp only [show (k54).sz=6 from rfl,Nat.mul_one,Nat.add_zero] at hx12_2);have hf12_2:=hfr12 2;(try simp only [show (k54).sz=6 from rfl,Nat.mul_one,Nat.add_zero] at hf12_2);have hx12_3:=hcc12 3 _ rfl;(try simp only [show (k54).sz=6 from rfl,Nat.mul_one,Nat.add_zero] at hx12_3);have hf12_3:=hfr12 3;(try simp only [show (k54).sz=6 from rfl,Nat.mul_one,Nat.add_zero] at hf12_3);have hx12_4:=hcc12 4 _ rfl;(try simp only [show (k54).sz=6 from rfl,Nat.mul_one,Nat.add_zero] at hx12_4);have hf12_4:=hfr12 4;(try simp only [show (k54).sz=6 from rfl,Nat.mul_one,Nat.add_zero] at hf12_4);have hx12_5:=hcc12 5 _ rfl;(try simp only [show (k54).sz=6 from rfl,Nat.mul_one,Nat.add_zero] at hx12_5);have hf12_5:=hfr12 5;(try simp only [show (k54).sz=6 from rfl,Nat.mul_one,Nat.add_zero] at hf12_5);clear hcl12 hcc12 hfr12 hM12 hoki12 hH12)|((with_reducible refine gate_store (t:=54) (p:=21) rfl ?_);refine store_event (t:=54) (p:=21) (v:=?vo_w13) (w1:=((((((w11.setCell ⟨go10,(x4_1:Int).toNat * 6,none⟩ (I L t319)).setCell ⟨go10,(x4_1:Int).toNat * 6 + 1,none⟩ (I L t320)).setCell ⟨go10,(x4_1:Int).toNat * 6 + 2,none⟩ (I L t321)).setCell ⟨go10,(x4_1:Int).toNat * 6 + 3,none⟩ (I L t322)).setCell ⟨go10,(x4_1:Int).toNat * 6 + 4,none⟩ (I L t323)).setCell ⟨go10,(x4_1:Int).toNat * 6 + 5,none⟩ (v325))) ?hg ?ho ?hn ?hr ?_;(case ho=>rfl);(case hg=>rfl);(case hn=>rfl);(case hr=>first|(go_simp;done)|(go_simp;rfl)|(obtain ⟨_,_,e_⟩:=Kd.R_slice HO326.out;subst e_;first|(go_simp;done)|(go_simp;rfl)));intro w13 hw;have hg:w11.grownBy w13 (some go10):=Z54;have hp_:Kd.S k54 54 w13 w.heap.size (fun _=>True) (Y (some ⟨go10,0,none⟩) x3_1.length co10) y327:=(by rw [hw,Ny327.out];exact HP12.1);clear HP12;have n_:=an_ (hp_)<|D (by rw [hw];exact below_set (below_set (below_set (below_set (below_set (below_set (HB.out) GB10.out) GB10.out) GB10.out) GB10.out) GB10.out) GB10.out:Below w.heap.size w w13);clear HO_3 HB HO326;obtain ⟨HO_3,HB⟩:=n_;clear hg hw hp_))
        go_roundg k1
        case measure => have := HK1.out; omega
        case rel => exact ⟨(y327), (wrap64 (x4_1 + 1)), Z53, H', ⟨by have := HK1.out; omega⟩, ⟨pS_ HO_3.out⟩, ⟨pB_ HB.out⟩⟩
       ·rw [if_neg c9] at H
        exact absurd H (by simp)
      ·rw [if_neg c7] at H
       exact absurd H (by simp)
     ·rw [if_neg c6] at H
      have c6b0 : decide (x4_1 < (l0.length : Int)) = false := decide_eq_false c6; clear c6; obtain rfl := Option.some.inj H
      go_wp2
      go_ret;exact ⟨_,er_,by (with_reducible repeat (first|apply Kd.S_alloc|apply Kd.S_drewN|apply Kd.S_drew));exact HO_3.out,pB_ HB.out⟩
  ·rw [if_neg c3] at H
   exact absurd H (by simp)
 ·rw [if_neg c2] at H
  exact absurd H (by simp)

/-! ### laws_toTree: function 6 -/
def laws_toTree.f (k : Nat) (a0_0 a0_1 a0_2 a0_3 : Int) (l0_4 : List (S89)) (l0_5 : List (S67)) : Option (Int × Int × Int × Int × (List (S51)) × (List (S54))) := (laws_toFair.f k a0_0 a0_1 a0_2 a0_3 l0_4).bind fun bt331 => ((laws_toBranchS.f k l0_5).bind fun t338 => (some (bt331.1, bt331.2.1, bt331.2.2.1, bt331.2.2.2.1, bt331.2.2.2.2, t338)))
set_option maxHeartbeats 8000000 in
set_option maxRecDepth 100000 in
theorem laws_toTree.calls (k : Nat) (a0_0 a0_1 a0_2 a0_3 : Int) (A0_4 : Option Addr) (c0_4 : Nat) (l0_4 : List (S89)) (A0_5 : Option Addr) (c0_5 : Nat) (l0_5 : List (S67)) (r1 r2 r3 r4 : Int) (r5 : List (S51)) (r6 : List (S54)) (w : World) (hr0_4 : Kd.C k89 w A0_4 l0_4.length l0_4) (hc0_4 : l0_4.length ≤ c0_4) (hr0_5 : Kd.C k67 w A0_5 l0_5.length l0_5) (hc0_5 : l0_5.length ≤ c0_5) (h : laws_toTree.f k a0_0 a0_1 a0_2 a0_3 l0_4 l0_5 = some (r1, r2, r3, r4, r5, r6)) :
  Calls Try.prog 6 #[.agg #[I L a0_0,I L a0_1,I L a0_2,I L a0_3,Y A0_4 l0_4.length c0_4,Y A0_5 l0_5.length c0_5]] w fun e w'=>∃ v4_ v5_:Value,e=.returned (.agg #[I L r1,I L r2,I L r3,I L r4,v4_,v5_])∧Kd.R k51 51 w' w.heap.size (fun _=>True) v4_ r5∧Kd.S k54 54 w' w.heap.size (fun k_=>some k_≠(v4_:Value).ownBlock) v5_ r6∧Below w.heap.size w w':=by
 have hu29 := Try.underlying29
 have hu37 := Try.underlying37
 have hu26 := Try.underlying26
 have hu34 := Try.underlying34
 have HR0_4 := D hr0_4
 have HC0_4 := D hc0_4
 clear hr0_4 hc0_4
 have HR0_5 := D hr0_5
 have HC0_5 := D hc0_5
 clear hr0_5 hc0_5
 have HB := D (Below.refl w.heap.size w)
 have H:((laws_toFair.f k a0_0 a0_1 a0_2 a0_3 l0_4).bind fun bt331=>((laws_toBranchS.f k l0_5).bind fun t338=>(some (bt331.1,bt331.2.1,bt331.2.2.1,bt331.2.2.2.1,bt331.2.2.2.2,t338))))=some (r1,r2,r3,r4,r5,r6):=h
 clear h
 obtain ⟨⟨t331, t332, t333, t334, t335⟩, A20, H⟩ := bs_.mp H
 (try dsimp only at H)
 have A2 := D A20
 clear A20
 obtain ⟨t338, A30, H⟩ := bs_.mp H
 (try dsimp only at H)
 have A3 := D A30
 clear A30
 simp only [Option.some.injEq, Prod.mk.injEq] at H
 obtain ⟨rfl, rfl, rfl, rfl, rfl, rfl⟩ := H
 go_enter Try.func6, Try.ntmps6
 go_wp2_with (first|((with_reducible refine gate_dst (N:=1) rfl ?_);refine bx_ (N:=1) (cs:=#[I L a0_0,I L a0_1,I L a0_2,I L a0_3,Y A0_4 l0_4.length c0_4,Y A0_5 l0_5.length c0_5]) (t:=29) ?_;intro gb328 hg w4 hbox hb;have n_:=an_ (below_step (pB_ HB.out) hb)<|an_ (hbox)<|an_ (bg_ hg (pB_ HB.out):w.heap.size≤gb328)<|D (bg_ hg (pB_ HB.out):w.heap.size≤gb328);clear HB;obtain ⟨HB,BK328,GW328,GE328⟩:=n_;clear hb hbox hg)|((with_reducible refine gate_dst (N:=2) rfl ?_);refine bx_ (N:=2) (cs:=#[I L 0,I L 0,I L 0,I L 0,Y none 0 0,Y none 0 0]) (t:=37) ?_;intro gb329 hg w5 hbox hb;have n_:=an_ (blk_below (pk_ BK328.out) hb)<|an_ (below_step (pB_ HB.out) hb)<|an_ (hbox)<|an_ (bg_ hg (pB_ HB.out):w.heap.size≤gb329)<|an_ (bg_ hg (pB_ HB.out):w.heap.size≤gb329)<|an_ (nl_ hg (pk_ BK328.out):gb328≠gb329)<|D (by rw [hg];exact Nat.ne_of_gt (blk_lt (pk_ BK328.out)):gb329≠gb328);clear BK328 HB;obtain ⟨BK328,HB,BK329,GW329,GE329,NB328_329,NB329_328⟩:=n_;clear hb hbox hg)|((with_reducible refine gate_dst (N:=3) rfl ?_);refine bx_ (N:=3) (cs:=#[I L 0,I L 0,I L 0,I L 0,Y none 0 0,Y none 0 0]) (t:=37) ?_;intro gb330 hg w6 hbox hb;have n_:=an_ (blk_below (pk_ BK328.out) hb)<|an_ (blk_below (pk_ BK329.out) hb)<|an_ (below_step (pB_ HB.out) hb)<|an_ (hbox)<|an_ (bg_ hg (pB_ HB.out):w.heap.size≤gb330)<|an_ (bg_ hg (pB_ HB.out):w.heap.size≤gb330)<|an_ (nl_ hg (pk_ BK328.out):gb328≠gb330)<|an_ (ng_ hg (pk_ BK328.out):gb330≠gb328)<|an_ (nl_ hg (pk_ BK329.out):gb329≠gb330)<|D (by rw [hg];exact Nat.ne_of_gt (blk_lt (pk_ BK329.out)):gb330≠gb329);clear BK328 BK329 HB;obtain ⟨BK328,BK329,HB,BK330,GW330,GE330,NB328_330,NB330_328,NB329_330,NB330_329⟩:=n_;clear hb hbox hg;(try have:=NB328_329.out);(try have:=NB329_328.out);(try have:=NB328_330.out);(try have:=NB330_328.out);have hcz9_0:=cells6 BK328.out)|((with_reducible refine gate_callee (f:=18) rfl ?_);refine goesL_ (some 6) rfl rfl Try.func18 (by kernel_rfl) rfl #[.agg #[I L a0_0,I L a0_1,I L a0_2,I L a0_3,Y A0_4 l0_4.length c0_4]] rfl Z21 ?_;(with_reducible refine (laws_toFair.calls k a0_0 a0_1 a0_2 a0_3 _ _ l0_4 t331 t332 t333 t334 t335 _ ?side1 ?side2 A2.out).mono ?_);(case side1=>exact pC_ (Kd.C_below HR0_4.out HB.out));(case side2=>exact HC0_4.out);rintro e w10 ⟨v336,rfl,ho0,hb⟩;refine ⟨_,rfl,?_⟩;have n_:=an_ (Kd.R_lower ho0 (below_size (pB_ HB.out)))<|an_ (blk_below (pk_ BK328.out) hb)<|an_ (blk_below (pk_ BK329.out) hb)<|an_ (blk_below (pk_ BK330.out) hb)<|D (below_step (pB_ HB.out) hb);clear BK328 BK329 BK330 HB;obtain ⟨HO337,BK328,BK329,BK330,HB⟩:=n_;(try clear hb);(try clear ho0);(try have:=NB330_329.out);(try have:=NB329_330.out);have hcz12_0:=cells6 BK330.out;obtain ⟨Ao13,co13,eo13⟩:=Kd.R_slice HO337.out;subst eo13;have hcz14_0:=cells6 BK328.out)|((with_reducible refine gate_callee (f:=19) rfl ?_);refine goesL_ (some 10) rfl rfl Try.func19 (by kernel_rfl) rfl #[Y A0_5 l0_5.length c0_5] rfl Z21 ?_;(with_reducible refine (laws_toBranchS.calls k _ _ l0_5 t338 _ ?side1 ?side2 A3.out).mono ?_);(case side1=>exact Kd.C_below HR0_5.out (pB_ HB.out));(case side2=>exact HC0_5.out);rintro e w15 ⟨v339,rfl,ho0,hb⟩;refine ⟨_,rfl,?_⟩;have n_:=an_ (Kd.R_below (rM_ (Kd.R_types HO337.out BK330.out (by decide)) (fun _ h_=>h_.1)) hb)<|an_ (Kd.S_lower (Kd.S_new' ho0 (Kd.R_lt (rM_ (Kd.R_types HO337.out BK330.out (by decide)) (fun _ h_=>h_.1)))) (below_size (pB_ HB.out)))<|an_ (blk_below (g:=gb328) (o:=.cells #[I L a0_0,I L a0_1,I L a0_2,I L a0_3,Y A0_4 l0_4.length c0_4,Y A0_5 l0_5.length c0_5] 29 (0,0)) (by exact pP_ BK328.out) hb)<|an_ (blk_below (g:=gb329) (o:=.cells #[I L 0,I L 0,I L 0,I L 0,Y none 0 0,Y none 0 0] 37 (0,0)) (by exact pP_ BK329.out) hb)<|an_ (blk_below (g:=gb330) (o:=.cells #[I L t331,I L t332,I L t333,I L t334,Y Ao13 t335.length co13,Y none 0 0] 37 (0,0)) (by exact pP_ BK330.out) hb)<|D (below_step (pB_ HB.out) hb);clear HO337 BK328 BK329 BK330 HB;obtain ⟨HO337,HO340,BK328,BK329,BK330,HB⟩:=n_;(try clear hb);(try clear ho0);obtain ⟨Ao16,co16,eo16⟩:=Kd.S_slice HO340.out;subst eo16;have hcz17_0:=cells6 BK330.out;have hcz18_0:=cells6 BK329.out))
 refine bodyPost_ret (results_cell_row rfl _ _ gb329 37 #[I L t331,I L t332,I L t333,I L t334,Y Ao13 t335.length co13,Y Ao16 t338.length co16] (0,0) _ rfl (by exact pP_ BK329.out) Try.underlying37 rfl (by kernel_rfl)) rfl ?_
 exact ⟨_,_,er_,by (with_reducible repeat (first|apply Kd.R_alloc|apply Kd.R_drewN|apply Kd.R_drew));exact Kd.R_mono (fr_ (fr_ (fr_ (fr_ (fr_ (fr_ (Kd.R_far (p:=⟨gb330,5,none⟩) (Kd.R_types (Kd.R_types HO337.out BK330.out (by decide)) BK329.out (by decide)) (fun _ hk=>hk.1.2) (Y Ao16 t338.length co16)) 0 (I L t331)) 1 (I L t332)) 2 (I L t333)) 3 (I L t334)) 4 (Y Ao13 t335.length co13)) 5 (Y Ao16 t338.length co16)) (fun _ hk=>trivial),by (with_reducible repeat (first|apply Kd.S_alloc|apply Kd.S_drewN|apply Kd.S_drew));exact Kd.S_mono (Kd.S_far (p:=⟨gb329,5,none⟩) (Kd.S_far (p:=⟨gb329,4,none⟩) (Kd.S_far (p:=⟨gb329,3,none⟩) (Kd.S_far (p:=⟨gb329,2,none⟩) (Kd.S_far (p:=⟨gb329,1,none⟩) (Kd.S_far (p:=⟨gb329,0,none⟩) (Kd.S_far (p:=⟨gb330,5,none⟩) (Kd.S_types (Kd.S_types HO340.out BK330.out (by decide)) BK329.out (by decide)) (fun _ hk=>hk.1.2) (Y Ao16 t338.length co16)) (fun _ hk=>hk.2) (I L t331)) (fun _ hk=>hk.2) (I L t332)) (fun _ hk=>hk.2) (I L t333)) (fun _ hk=>hk.2) (I L t334)) (fun _ hk=>hk.2) (Y Ao13 t335.length co13)) (fun _ hk=>hk.2) (Y Ao16 t338.length co16)) (fun _ hk=>hk.1.1.2),pB_ HB.out⟩

/-! ### impl_within: function 66 -/
def impl_within.f (a0 a1 a2 : Int) : Option (Bool) := if a0 ≥ a1 then (some (decide (a0 ≤ a2))) else (some false)
set_option maxHeartbeats 8000000 in
set_option maxRecDepth 100000 in
theorem impl_within.calls (a0 a1 a2 : Int) (r : Bool) (w : World) (h : impl_within.f a0 a1 a2 = some r) :
  Calls Try.prog 66 #[I L a0, I L a1, I L a2] w fun e w' => e = .returned (.bool r) ∧ Drawn0 w w' := by
 have H : (if a0 ≥ a1 then (some (decide (a0 ≤ a2))) else (some false)) = some r := h
 clear h
 by_cases c4 : a0 ≥ a1
 ·rw [if_pos c4] at H
  have c4b0 : decide (a1 ≤ a0) = true := decide_eq_true c4; clear c4; obtain rfl := Option.some.inj H; go_enter Try.func66, Try.ntmps66
  go_wp2
  go_ret; exact ⟨by first | rfl | (simp; done) | (simp [*]; done), by repeat (first | exact Drawn0.refl _ | apply Drawn0.step)⟩
 ·rw [if_neg c4] at H
  have c4b0 : decide (a1 ≤ a0) = false := decide_eq_false c4; clear c4; obtain rfl := Option.some.inj H; go_enter Try.func66, Try.ntmps66
  go_wp2
  go_ret; exact ⟨by first | rfl | (simp; done) | (simp [*]; done), by repeat (first | exact Drawn0.refl _ | apply Drawn0.step)⟩

/-! ### impl_isDelta: function 53 -/
def impl_isDelta.f (a0 : Int) : Option (Bool) := (impl_within.f a0 0 10000000).bind fun t341 => (some t341)
set_option maxHeartbeats 8000000 in
set_option maxRecDepth 100000 in
theorem impl_isDelta.calls (a0 : Int) (r : Bool) (w : World) (h : impl_isDelta.f a0 = some r) :
  Calls Try.prog 53 #[I L a0] w fun e w' => e = .returned (.bool r) ∧ Drawn0 w w' := by
 have H : ((impl_within.f a0 0 10000000).bind fun t341 => (some t341)) = some r := h
 clear h
 obtain ⟨t341, A20, H⟩ := bs_.mp H
 (try dsimp only at H)
 have A2 := D A20
 clear A20
 obtain rfl := Option.some.inj H
 go_enter Try.func53, Try.ntmps53
 go_wp2_with (first|((with_reducible refine gate_callee (f:=66) rfl ?_);refine goesL_ (some 4) rfl rfl Try.func66 (by kernel_rfl) rfl #[I L a0,I L 0,I L 10000000] rfl Z21 ?_;(with_reducible refine (impl_within.calls a0 0 10000000 t341 _ A2.out).mono ?_);rintro e w' ⟨rfl,⟨nd,rfl⟩⟩;refine ⟨_,rfl,?_⟩))
 go_ret
 exact ⟨by first | rfl | (simp; done) | (simp [*]; done), by repeat (first | exact Drawn0.refl _ | apply Drawn0.step)⟩

/-! ### impl_VecTop: function 63 -/
def impl_VecTop.f (a0_0 a0_1 a0_2 : Int) : Option (Int) := some (mx (mx a0_0 a0_1) a0_2)
set_option maxHeartbeats 8000000 in
set_option maxRecDepth 100000 in
theorem impl_VecTop.calls (a0_0 a0_1 a0_2 r : Int) (w : World) (h : impl_VecTop.f a0_0 a0_1 a0_2 = some r) :
  Calls Try.prog 63 #[.agg #[I L a0_0, I L a0_1, I L a0_2]] w fun e w' => e = .returned (I L r) ∧ Below w.heap.size w w' := by
 have hu31 := Try.underlying31
 have HB := D (Below.refl w.heap.size w)
 have H : (some (mx (mx a0_0 a0_1) a0_2)) = some r := h
 clear h
 obtain ⟨ji2, hji2⟩ : ∃ j_ : Int, (mx a0_0 a0_1) = j_ := ⟨_, rfl⟩
 replace H : (some (mx (ji2) a0_2)) = some r := by first | (rw [hji2] at H; exact H) | (simp only [hji2] at H ⊢; exact H)
 have hji2_ : (if a0_0 < a0_1 then a0_1 else a0_0) = ji2 := hji2
 obtain ⟨ji3, hji3⟩ : ∃ j_ : Int, (mx (ji2) a0_2) = j_ := ⟨_, rfl⟩
 replace H : (some ji3) = some r := by first | (rw [hji3] at H; exact H) | (simp only [hji3] at H ⊢; exact H)
 have hji3_ : (if (ji2) < a0_2 then a0_2 else (ji2)) = ji3 := hji3
 obtain rfl := Option.some.inj H
 go_enter Try.func63, Try.ntmps63
 go_wp2_with (first|((with_reducible refine gate_dst (N:=1) rfl ?_);refine bx_ (N:=1) (cs:=#[I L a0_0,I L a0_1,I L a0_2]) (t:=31) ?_;intro gb342 hg w4 hbox hb;have n_:=an_ (below_step (pB_ HB.out) hb)<|an_ (hbox)<|an_ (bg_ hg (pB_ HB.out):w.heap.size≤gb342)<|D (bg_ hg (pB_ HB.out):w.heap.size≤gb342);clear HB;obtain ⟨HB,BK342,GW342,GE342⟩:=n_;clear hb hbox hg;have hcz5_0:=cells3 BK342.out))
 go_ret
 exact ⟨by first|rfl|(simp [errW_none,errW_some] <;> rfl)|(simp only [← hji2,← hji3];first|rfl|(simp [errW_none,errW_some] <;> rfl))|(simp [*,errW_none,errW_some] <;> rfl),pB_ HB.out⟩

/-! ### impl_Vec_isFrom: function 74 -/
def impl_Vec_isFrom.f (a0_0 a0_1 a0_2 a1 a2 : Int) : Option (Bool) := (impl_within.f a0_0 a1 a2).bind fun t344 => (if t344 = true then ((impl_within.f a0_1 a1 a2).bind fun t345 => (if t345 = true then ((impl_within.f a0_2 a1 a2).bind fun t346 => (some t346)) else (some false))) else (some false))
set_option maxHeartbeats 8000000 in
set_option maxRecDepth 100000 in
theorem impl_Vec_isFrom.calls (a0_0 a0_1 a0_2 a1 a2 : Int) (r : Bool) (w : World) (h : impl_Vec_isFrom.f a0_0 a0_1 a0_2 a1 a2 = some r) :
  Calls Try.prog 74 #[.agg #[I L a0_0, I L a0_1, I L a0_2], I L a1, I L a2] w fun e w' => e = .returned (.bool r) ∧ Below w.heap.size w w' := by
 have hu31 := Try.underlying31
 have HB := D (Below.refl w.heap.size w)
 have H:((impl_within.f a0_0 a1 a2).bind fun t344=>(if t344=true then ((impl_within.f a0_1 a1 a2).bind fun t345=>(if t345=true then ((impl_within.f a0_2 a1 a2).bind fun t346=>(some t346)) else (some false))) else (some false)))=some r:=h
 clear h
 obtain ⟨t344, A40, H⟩ := bs_.mp H
 (try dsimp only at H)
 have A4 := D A40
 clear A40
 by_cases c5 : t344 = true
 ·subst c5
  rw [if_pos rfl] at H; obtain ⟨t345, A60, H⟩ := bs_.mp H; (try dsimp only at H); have A6 := D A60; clear A60
  by_cases c7 : t345 = true
  ·subst c7
   rw [if_pos rfl] at H;obtain ⟨t346,A80,H⟩:=bs_.mp H;(try dsimp only at H);have A8:=D A80;clear A80;obtain rfl:=Option.some.inj H;go_enter Try.func74,Try.ntmps74
   go_wp2_with (first|((with_reducible refine gate_dst (N:=3) rfl ?_);refine bx_ (N:=3) (cs:=#[I L a0_0,I L a0_1,I L a0_2]) (t:=31) ?_;intro gb343 hg w9 hbox hb;have n_:=an_ (below_step (pB_ HB.out) hb)<|an_ (hbox)<|an_ (bg_ hg (pB_ HB.out):w.heap.size≤gb343)<|D (bg_ hg (pB_ HB.out):w.heap.size≤gb343);clear HB;obtain ⟨HB,BK343,GW343,GE343⟩:=n_;clear hb hbox hg;have hcz10_0:=cells3 BK343.out)|((with_reducible refine gate_callee (f:=66) rfl ?_);refine goesL_ (some 11) rfl rfl Try.func66 (by kernel_rfl) rfl #[I L a0_0,I L a1,I L a2] rfl Z21 ?_;(with_reducible refine (impl_within.calls a0_0 a1 a2 true _ A4.out).mono ?_);rintro e w' ⟨rfl,⟨nd,rfl⟩⟩;refine ⟨_,rfl,?_⟩)|(go_at_call 66;(with_reducible refine (impl_within.calls a0_1 a1 a2 true _ A6.out).mono ?_);rintro e w' ⟨rfl,⟨nd,rfl⟩⟩)|(go_at_call 66;(with_reducible refine (impl_within.calls a0_2 a1 a2 t346 _ A8.out).mono ?_);rintro e w' ⟨rfl,⟨nd,rfl⟩⟩))
   go_ret; exact ⟨er_, pB_ HB.out⟩
  ·replace c7 := Bool.eq_false_iff.mpr c7
   subst c7; rw [if_neg (show ¬ (false = true) by decide)] at H; obtain rfl := Option.some.inj H; go_enter Try.func74, Try.ntmps74
   go_wp2_with (first|((with_reducible refine gate_dst (N:=3) rfl ?_);refine bx_ (N:=3) (cs:=#[I L a0_0,I L a0_1,I L a0_2]) (t:=31) ?_;intro gb343 hg w11 hbox hb;have n_:=an_ (below_step (pB_ HB.out) hb)<|an_ (hbox)<|an_ (bg_ hg (pB_ HB.out):w.heap.size≤gb343)<|D (bg_ hg (pB_ HB.out):w.heap.size≤gb343);clear HB;obtain ⟨HB,BK343,GW343,GE343⟩:=n_;clear hb hbox hg;have hcz12_0:=cells3 BK343.out)|((with_reducible refine gate_callee (f:=66) rfl ?_);refine goesL_ (some 11) rfl rfl Try.func66 (by kernel_rfl) rfl #[I L a0_0,I L a1,I L a2] rfl Z21 ?_;(with_reducible refine (impl_within.calls a0_0 a1 a2 true _ A4.out).mono ?_);rintro e w' ⟨rfl,⟨nd,rfl⟩⟩;refine ⟨_,rfl,?_⟩)|(go_at_call 66;(with_reducible refine (impl_within.calls a0_1 a1 a2 false _ A6.out).mono ?_);rintro e w' ⟨rfl,⟨nd,rfl⟩⟩))
   go_ret; exact ⟨er_, pB_ HB.out⟩
 ·replace c5 := Bool.eq_false_iff.mpr c5
  subst c5; rw [if_neg (show ¬ (false = true) by decide)] at H; obtain rfl := Option.some.inj H; go_enter Try.func74, Try.ntmps74
  go_wp2_with (first|((with_reducible refine gate_dst (N:=3) rfl ?_);refine bx_ (N:=3) (cs:=#[I L a0_0,I L a0_1,I L a0_2]) (t:=31) ?_;intro gb343 hg w13 hbox hb;have n_:=an_ (below_step (pB_ HB.out) hb)<|an_ (hbox)<|an_ (bg_ hg (pB_ HB.out):w.heap.size≤gb343)<|D (bg_ hg (pB_ HB.out):w.heap.size≤gb343);clear HB;obtain ⟨HB,BK343,GW343,GE343⟩:=n_;clear hb hbox hg;have hcz14_0:=cells3 BK343.out)|((with_reducible refine gate_callee (f:=66) rfl ?_);refine goesL_ (some 11) rfl rfl Try.func66 (by kernel_rfl) rfl #[I L a0_0,I L a1,I L a2] rfl Z21 ?_;(with_reducible refine (impl_within.calls a0_0 a1 a2 false _ A4.out).mono ?_);rintro e w' ⟨rfl,⟨nd,rfl⟩⟩;refine ⟨_,rfl,?_⟩))
  go_ret; exact ⟨er_, pB_ HB.out⟩

/-! ### impl_TagOk: function 73 -/
def impl_TagOk.f (a0_0 a0_1 a0_2 : Int) : Option (Bool) := (impl_Vec_isFrom.f a0_0 a0_1 a0_2 0 1000000000000).bind fun t348 => (some t348)
set_option maxHeartbeats 8000000 in
set_option maxRecDepth 100000 in
theorem impl_TagOk.calls (a0_0 a0_1 a0_2 : Int) (r : Bool) (w : World) (h : impl_TagOk.f a0_0 a0_1 a0_2 = some r) :
  Calls Try.prog 73 #[.agg #[I L a0_0, I L a0_1, I L a0_2]] w fun e w' => e = .returned (.bool r) ∧ Below w.heap.size w w' := by
 have hu31 := Try.underlying31
 have HB := D (Below.refl w.heap.size w)
 have H : ((impl_Vec_isFrom.f a0_0 a0_1 a0_2 0 1000000000000).bind fun t348 => (some t348)) = some r := h
 clear h
 obtain ⟨t348, A20, H⟩ := bs_.mp H
 (try dsimp only at H)
 have A2 := D A20
 clear A20
 obtain rfl := Option.some.inj H
 go_enter Try.func73, Try.ntmps73
 go_wp2_with (first|((with_reducible refine gate_dst (N:=1) rfl ?_);refine bx_ (N:=1) (cs:=#[I L a0_0,I L a0_1,I L a0_2]) (t:=31) ?_;intro gb347 hg w3 hbox hb;have n_:=an_ (below_step (pB_ HB.out) hb)<|an_ (hbox)<|an_ (bg_ hg (pB_ HB.out):w.heap.size≤gb347)<|D (bg_ hg (pB_ HB.out):w.heap.size≤gb347);clear HB;obtain ⟨HB,BK347,GW347,GE347⟩:=n_;clear hb hbox hg;have hcz4_0:=cells3 BK347.out)|((with_reducible refine gate_callee (f:=74) rfl ?_);refine goesL_ (some 4) rfl rfl Try.func74 (by kernel_rfl) rfl #[.agg #[I L a0_0,I L a0_1,I L a0_2],I L 0,I L 1000000000000] rfl Z21 ?_;(with_reducible refine (impl_Vec_isFrom.calls a0_0 a0_1 a0_2 0 1000000000000 t348 _ A2.out).mono ?_);rintro e w5 ⟨rfl,hb⟩;refine ⟨_,rfl,?_⟩;have n_:=an_ (blk_below (pk_ BK347.out) hb)<|D (below_step (pB_ HB.out) hb);clear BK347 HB;obtain ⟨BK347,HB⟩:=n_;(try clear hb)))
 go_ret
 exact ⟨er_, pB_ HB.out⟩

/-! ### impl_Narrow: function 62 -/
def impl_Narrow.f (a0_0 a0_1 a0_2 a1 : Int) : Option (Bool) := (impl_TagOk.f a0_0 a0_1 a0_2).bind fun t350 => (if t350 = true then ((impl_isDelta.f a1).bind fun t351 => (if t351 = true then ((impl_VecTop.f a0_0 a0_1 a0_2).bind fun t352 => ((impl_Vec_isFrom.f a0_0 a0_1 a0_2 (wrap64 (t352 - a1)) 1000000000000).bind fun t353 => (some t353))) else (some false))) else (some false))
def impl_Narrow.T1 : Bool × List (List Nat × List Nat) := (true, [([], []), ([0], [0]), ([1, 1], [1]), ([2], [2]), ([3, 2, 2], [2, 3]), ([2, 4], [2, 4]), ([5, 4], [5]), ([6], [6]), ([6], [6]), ([8, 6, 6], [6, 8]), ([6], [6]), ([9, 10, 6], [6, 9, 10]), ([7, 11, 9, 6], [6, 7, 11]), ([6, 12], [6, 12]), ([13, 12, 0, 1, 2, 3, 4, 5, 6, 7, 8, 9, 10, 11, 12, 13], [13])])
def impl_Narrow.B1 : List Nat := [0, 1, 3, 7, 15, 31, 63, 127, 127, 383, 127, 1919, 4095, 8191, 16383]
theorem impl_Narrow.tab1 : rtab .any (opsOf Try.f62 1) = impl_Narrow.T1 := by kernel_rfl
theorem impl_Narrow.bits1 : waitsOk impl_Narrow.T1.2 impl_Narrow.B1 = true := by kernel_rfl
set_option maxHeartbeats 8000000 in
set_option maxRecDepth 100000 in
theorem impl_Narrow.calls (a0_0 a0_1 a0_2 a1 : Int) (r : Bool) (w : World) (h : impl_Narrow.f a0_0 a0_1 a0_2 a1 = some r) :
  Calls Try.prog 62 #[.agg #[I L a0_0, I L a0_1, I L a0_2], I L a1] w fun e w' => e = .returned (.bool r) ∧ Below w.heap.size w w' := by
 have hu31 := Try.underlying31
 have HB := D (Below.refl w.heap.size w)
 have H:((impl_TagOk.f a0_0 a0_1 a0_2).bind fun t350=>(if t350=true then ((impl_isDelta.f a1).bind fun t351=>(if t351=true then ((impl_VecTop.f a0_0 a0_1 a0_2).bind fun t352=>((impl_Vec_isFrom.f a0_0 a0_1 a0_2 (wrap64 (t352 - a1)) 1000000000000).bind fun t353=>(some t353))) else (some false))) else (some false)))=some r:=h
 clear h
 obtain ⟨t350, A30, H⟩ := bs_.mp H
 (try dsimp only at H)
 have A3 := D A30
 clear A30
 by_cases c4 : t350 = true
 ·subst c4
  rw [if_pos rfl] at H; obtain ⟨t351, A50, H⟩ := bs_.mp H; (try dsimp only at H); have A5 := D A50; clear A50
  by_cases c6 : t351 = true
  ·subst c6
   rw [if_pos rfl] at H;obtain ⟨t352,A70,H⟩:=bs_.mp H;(try dsimp only at H);have A7:=D A70;clear A70;obtain ⟨t353,A80,H⟩:=bs_.mp H;(try dsimp only at H);have A8:=D A80;clear A80;obtain rfl:=Option.some.inj H;go_enter Try.func62,Try.ntmps62
   try go_wp2_with (first|((with_reducible refine gate_dst (N:=2) rfl ?_);refine bx_ (N:=2) (cs:=#[I L a0_0,I L a0_1,I L a0_2]) (t:=31) ?_;intro gb349 hg w9 hbox hb;have n_:=an_ (below_step (pB_ HB.out) hb)<|an_ (hbox)<|an_ (bg_ hg (pB_ HB.out):w.heap.size≤gb349)<|D (bg_ hg (pB_ HB.out):w.heap.size≤gb349);clear HB;obtain ⟨HB,BK349,GW349,GE349⟩:=n_;clear hb hbox hg))
   have n_ := an_ (blk_drew BK349.out) <| D (below_drew1 HB.out)
   clear BK349 HB;obtain ⟨BK349,HB⟩:=n_;refine start_ (n:=15) (S:=fun w'=>w'.cell? ⟨gb349,0,none⟩=some (I L a0_0)∧w'.cell? ⟨gb349,1,none⟩=some (I L a0_1)∧w'.cell? ⟨gb349,2,none⟩=some (I L a0_2)) (ds:=[]) (bz 15 0) (by kernel_rfl) rfl (by kernel_rfl) (be3_ BK349.out) (fun hHeld=>?_);refine with_tabW impl_Narrow.tab1 impl_Narrow.bits1 (fun HT_ HW_=>?_);generalize w9.drew=w10 at BK349 HB hHeld ⊢;refine tb_ 0 rfl rfl hHeld Z51 ?_;refine oa_ 1 6 15 3 HT_ (fun K hK=>?_);refine goes_ Try.func73 (by kernel_rfl) rfl #[.agg #[I L a0_0,I L a0_1,I L a0_2]] (by rfl) rfl rfl Z21 ?_;with_reducible refine (impl_TagOk.calls a0_0 a0_1 a0_2 true _ A3.out).mono ?_
   rintro e w11 ⟨rfl, hb⟩; refine ⟨_, rfl, ?_⟩
   have n_ := an_ (blk_below (pk_ BK349.out) hb) <| D (below_step (pB_ HB.out) hb)
   clear BK349 HB;obtain ⟨BK349,HB⟩:=n_;refine hK.out _ _ (be3_ BK349.out) (fun hHeld=>?_);clear hK K;refine nx_ (N:=some 6) ?_;refine pb_ 2 ?_;refine pb_ 3 ?_;refine oa_ 4 9 15 31 HT_ (fun K hK=>?_);refine goes_ Try.func53 (by kernel_rfl) rfl #[I L a1] (by rfl) rfl rfl Z21 ?_;with_reducible refine (impl_isDelta.calls a1 true _ A5.out).mono ?_
   rintro e w' ⟨rfl,⟨nd,rfl⟩⟩;refine ⟨_,rfl,?_⟩;refine hK.out _ _ (be3_ BK349.out) (fun hHeld=>?_);clear hK K;refine nx_ (N:=some 9) ?_;refine pb_ 5 ?_;refine pb_ 6 ?_;refine pb_ 10 ?_;refine tb_ 7 rfl rfl hHeld Z51 ?_;refine tb_ 8 rfl rfl hHeld Z51 ?_;refine oa_ 9 14 15 2047 HT_ (fun K hK=>?_);refine goes_ Try.func63 (by kernel_rfl) rfl #[.agg #[I L a0_0,I L a0_1,I L a0_2]] (by rfl) rfl rfl Z21 ?_;with_reducible refine (impl_VecTop.calls a0_0 a0_1 a0_2 t352 _ A7.out).mono ?_
   rintro e w12 ⟨rfl, hb⟩; refine ⟨_, rfl, ?_⟩
   have n_ := an_ (blk_below (pk_ BK349.out) hb) <| D (below_step (pB_ HB.out) hb)
   clear BK349 HB;obtain ⟨BK349,HB⟩:=n_;refine hK.out _ _ (be3_ BK349.out) (fun hHeld=>?_);clear hK K;refine nx_ (N:=some 14) ?_;refine pb_ 11 ?_;refine oa_ 12 17 15 8191 HT_ (fun K hK=>?_);refine goes_ Try.func74 (by kernel_rfl) rfl #[.agg #[I L a0_0,I L a0_1,I L a0_2],I L (wrap64 (t352 - a1)),I L 1000000000000] (by rfl) rfl rfl Z21 ?_;with_reducible refine (impl_Vec_isFrom.calls a0_0 a0_1 a0_2 (wrap64 (t352 - a1)) 1000000000000 t353 _ A8.out).mono ?_
   rintro e w13 ⟨rfl, hb⟩; refine ⟨_, rfl, ?_⟩
   have n_ := an_ (blk_below (pk_ BK349.out) hb) <| D (below_step (pB_ HB.out) hb)
   clear BK349 HB;obtain ⟨BK349,HB⟩:=n_;refine hK.out _ _ (be3_ BK349.out) (fun hHeld=>?_);clear hK K;refine nx_ (N:=some 17) ?_;refine pb_ 13 ?_;refine pb_ 14 ?_;refine done_ (done_of HT_.out (by kernel_rfl)) ?_
   try go_wp2
   go_ret; exact ⟨er_, pB_ HB.out⟩
  ·replace c6 := Bool.eq_false_iff.mpr c6
   subst c6; rw [if_neg (show ¬ (false = true) by decide)] at H; obtain rfl := Option.some.inj H; go_enter Try.func62, Try.ntmps62
   try go_wp2_with (first|((with_reducible refine gate_dst (N:=2) rfl ?_);refine bx_ (N:=2) (cs:=#[I L a0_0,I L a0_1,I L a0_2]) (t:=31) ?_;intro gb349 hg w14 hbox hb;have n_:=an_ (below_step (pB_ HB.out) hb)<|an_ (hbox)<|an_ (bg_ hg (pB_ HB.out):w.heap.size≤gb349)<|D (bg_ hg (pB_ HB.out):w.heap.size≤gb349);clear HB;obtain ⟨HB,BK349,GW349,GE349⟩:=n_;clear hb hbox hg))
   have n_ := an_ (blk_drew BK349.out) <| D (below_drew1 HB.out)
   clear BK349 HB;obtain ⟨BK349,HB⟩:=n_;refine start_ (n:=15) (S:=fun w'=>w'.cell? ⟨gb349,0,none⟩=some (I L a0_0)∧w'.cell? ⟨gb349,1,none⟩=some (I L a0_1)∧w'.cell? ⟨gb349,2,none⟩=some (I L a0_2)) (ds:=[]) (bz 15 0) (by kernel_rfl) rfl (by kernel_rfl) (be3_ BK349.out) (fun hHeld=>?_);refine with_tabW impl_Narrow.tab1 impl_Narrow.bits1 (fun HT_ HW_=>?_);generalize w14.drew=w15 at BK349 HB hHeld ⊢;refine tb_ 0 rfl rfl hHeld Z51 ?_;refine oa_ 1 6 15 3 HT_ (fun K hK=>?_);refine goes_ Try.func73 (by kernel_rfl) rfl #[.agg #[I L a0_0,I L a0_1,I L a0_2]] (by rfl) rfl rfl Z21 ?_;with_reducible refine (impl_TagOk.calls a0_0 a0_1 a0_2 true _ A3.out).mono ?_
   rintro e w16 ⟨rfl, hb⟩; refine ⟨_, rfl, ?_⟩
   have n_ := an_ (blk_below (pk_ BK349.out) hb) <| D (below_step (pB_ HB.out) hb)
   clear BK349 HB;obtain ⟨BK349,HB⟩:=n_;refine hK.out _ _ (be3_ BK349.out) (fun hHeld=>?_);clear hK K;refine nx_ (N:=some 6) ?_;refine pb_ 2 ?_;refine pb_ 3 ?_;refine oa_ 4 9 15 31 HT_ (fun K hK=>?_);refine goes_ Try.func53 (by kernel_rfl) rfl #[I L a1] (by rfl) rfl rfl Z21 ?_;with_reducible refine (impl_isDelta.calls a1 false _ A5.out).mono ?_
   rintro e w' ⟨rfl,⟨nd,rfl⟩⟩;refine ⟨_,rfl,?_⟩;refine hK.out _ _ (be3_ BK349.out) (fun hHeld=>?_);clear hK K;refine nx_ (N:=some 9) ?_;refine pb_ 5 ?_;refine pb_ 6 ?_;refine ob_ 7 ?_;refine ob_ 8 ?_;refine ob_ 9 ?_;refine ob_ 10 ?_;refine ob_ 11 ?_;refine ob_ 12 ?_;refine pb_ 13 ?_;refine pb_ 14 ?_;refine done_ (done_of HT_.out (by kernel_rfl)) ?_
   try go_wp2
   go_ret; exact ⟨er_, pB_ HB.out⟩
 ·replace c4 := Bool.eq_false_iff.mpr c4
  subst c4; rw [if_neg (show ¬ (false = true) by decide)] at H; obtain rfl := Option.some.inj H; go_enter Try.func62, Try.ntmps62
  try go_wp2_with (first|((with_reducible refine gate_dst (N:=2) rfl ?_);refine bx_ (N:=2) (cs:=#[I L a0_0,I L a0_1,I L a0_2]) (t:=31) ?_;intro gb349 hg w17 hbox hb;have n_:=an_ (below_step (pB_ HB.out) hb)<|an_ (hbox)<|an_ (bg_ hg (pB_ HB.out):w.heap.size≤gb349)<|D (bg_ hg (pB_ HB.out):w.heap.size≤gb349);clear HB;obtain ⟨HB,BK349,GW349,GE349⟩:=n_;clear hb hbox hg))
  have n_ := an_ (blk_drew BK349.out) <| D (below_drew1 HB.out)
  clear BK349 HB;obtain ⟨BK349,HB⟩:=n_;refine start_ (n:=15) (S:=fun w'=>w'.cell? ⟨gb349,0,none⟩=some (I L a0_0)∧w'.cell? ⟨gb349,1,none⟩=some (I L a0_1)∧w'.cell? ⟨gb349,2,none⟩=some (I L a0_2)) (ds:=[]) (bz 15 0) (by kernel_rfl) rfl (by kernel_rfl) (be3_ BK349.out) (fun hHeld=>?_);refine with_tabW impl_Narrow.tab1 impl_Narrow.bits1 (fun HT_ HW_=>?_);generalize w17.drew=w18 at BK349 HB hHeld ⊢;refine tb_ 0 rfl rfl hHeld Z51 ?_;refine oa_ 1 6 15 3 HT_ (fun K hK=>?_);refine goes_ Try.func73 (by kernel_rfl) rfl #[.agg #[I L a0_0,I L a0_1,I L a0_2]] (by rfl) rfl rfl Z21 ?_;with_reducible refine (impl_TagOk.calls a0_0 a0_1 a0_2 false _ A3.out).mono ?_
  rintro e w19 ⟨rfl, hb⟩; refine ⟨_, rfl, ?_⟩
  have n_ := an_ (blk_below (pk_ BK349.out) hb) <| D (below_step (pB_ HB.out) hb)
  clear BK349 HB;obtain ⟨BK349,HB⟩:=n_;refine hK.out _ _ (be3_ BK349.out) (fun hHeld=>?_);clear hK K;refine nx_ (N:=some 6) ?_;refine pb_ 2 ?_;refine ob_ 3 ?_;refine ob_ 4 ?_;refine pb_ 5 ?_;refine pb_ 6 ?_;refine ob_ 7 ?_;refine ob_ 8 ?_;refine ob_ 9 ?_;refine ob_ 10 ?_;refine ob_ 11 ?_;refine ob_ 12 ?_;refine pb_ 13 ?_;refine pb_ 14 ?_;refine done_ (done_of HT_.out (by kernel_rfl)) ?_
  try go_wp2
  go_ret; exact ⟨er_, pB_ HB.out⟩

/-! ### impl_isFlow: function 45 -/
def impl_isFlow.f (a0 : Int) : Option (Bool) := (impl_within.f a0 0 9999).bind fun t354 => (some t354)
set_option maxHeartbeats 8000000 in
set_option maxRecDepth 100000 in
theorem impl_isFlow.calls (a0 : Int) (r : Bool) (w : World) (h : impl_isFlow.f a0 = some r) :
  Calls Try.prog 45 #[I L a0] w fun e w' => e = .returned (.bool r) ∧ Drawn0 w w' := by
 have H : ((impl_within.f a0 0 9999).bind fun t354 => (some t354)) = some r := h
 clear h
 obtain ⟨t354, A20, H⟩ := bs_.mp H
 (try dsimp only at H)
 have A2 := D A20
 clear A20
 obtain rfl := Option.some.inj H
 go_enter Try.func45, Try.ntmps45
 go_wp2_with (first|((with_reducible refine gate_callee (f:=66) rfl ?_);refine goesL_ (some 4) rfl rfl Try.func66 (by kernel_rfl) rfl #[I L a0,I L 0,I L 9999] rfl Z21 ?_;(with_reducible refine (impl_within.calls a0 0 9999 t354 _ A2.out).mono ?_);rintro e w' ⟨rfl,⟨nd,rfl⟩⟩;refine ⟨_,rfl,?_⟩))
 go_ret
 exact ⟨by first | rfl | (simp; done) | (simp [*]; done), by repeat (first | exact Drawn0.refl _ | apply Drawn0.step)⟩

/-! ### impl_isWeight: function 46 -/
def impl_isWeight.f (a0 : Int) : Option (Bool) := (impl_within.f a0 1 10).bind fun t355 => (some t355)
set_option maxHeartbeats 8000000 in
set_option maxRecDepth 100000 in
theorem impl_isWeight.calls (a0 : Int) (r : Bool) (w : World) (h : impl_isWeight.f a0 = some r) :
  Calls Try.prog 46 #[I L a0] w fun e w' => e = .returned (.bool r) ∧ Drawn0 w w' := by
 have H : ((impl_within.f a0 1 10).bind fun t355 => (some t355)) = some r := h
 clear h
 obtain ⟨t355, A20, H⟩ := bs_.mp H
 (try dsimp only at H)
 have A2 := D A20
 clear A20
 obtain rfl := Option.some.inj H
 go_enter Try.func46, Try.ntmps46
 go_wp2_with (first|((with_reducible refine gate_callee (f:=66) rfl ?_);refine goesL_ (some 4) rfl rfl Try.func66 (by kernel_rfl) rfl #[I L a0,I L 1,I L 10] rfl Z21 ?_;(with_reducible refine (impl_within.calls a0 1 10 t355 _ A2.out).mono ?_);rintro e w' ⟨rfl,⟨nd,rfl⟩⟩;refine ⟨_,rfl,?_⟩))
 go_ret
 exact ⟨by first | rfl | (simp; done) | (simp [*]; done), by repeat (first | exact Drawn0.refl _ | apply Drawn0.step)⟩

/-! ### impl_Stride: function 75 -/
def impl_Stride.f (a0 : Int) : Option (Int) := (impl_isWeight.f a0).bind fun t356 => (if t356 = true then (if a0 = 0 then (none) else (some (wrap64 (Int.tdiv (2520 : Int) a0)))) else (some 0))
set_option maxHeartbeats 8000000 in
set_option maxRecDepth 100000 in
theorem impl_Stride.calls (a0 r : Int) (w : World) (h : impl_Stride.f a0 = some r) :
  Calls Try.prog 75 #[I L a0] w fun e w' => e = .returned (I L r) ∧ Drawn0 w w' := by
 have H : ((impl_isWeight.f a0).bind fun t356 => (if t356 = true then (if a0 = 0 then (none) else (some (wrap64 (Int.tdiv (2520 : Int) a0)))) else (some 0))) = some r := h
 clear h
 obtain ⟨t356, A20, H⟩ := bs_.mp H
 (try dsimp only at H)
 have A2 := D A20
 clear A20
 have HU3 := D H
 clear H
 go_enter Try.func75, Try.ntmps75
 go_upto_if 5 with (first|((with_reducible refine gate_callee (f:=46) rfl ?_);refine goesL_ (some 4) rfl rfl Try.func46 (by kernel_rfl) rfl #[I L a0] rfl Z21 ?_;(with_reducible refine (impl_isWeight.calls a0 t356 _ A2.out).mono ?_);rintro e w' ⟨rfl,⟨nd,rfl⟩⟩;refine ⟨_,rfl,?_⟩))
 have H := HU3.out
 clear HU3
 by_cases c4 : t356 = true
 ·subst c4
  rw [if_pos rfl] at H
  by_cases c5 : a0 = 0
  ·rw [if_pos c5] at H
   exact absurd H (by simp)
  ·rw [if_neg c5] at H
   have c5b0:(a0 == 0)=false:=beq_eq_false_iff_ne.mpr c5;have c5b1:(a0 != 0)=true:=bne_iff_ne.mpr c5;refine rw_ c5b0 ?_;obtain rfl:=Option.some.inj H
   go_wp2
   go_ret; exact ⟨by first | rfl | (simp; done) | (simp [*]; done), by repeat (first | exact Drawn0.refl _ | apply Drawn0.step)⟩
 ·replace c4 := Bool.eq_false_iff.mpr c4
  subst c4; rw [if_neg (show ¬ (false = true) by decide)] at H; obtain rfl := Option.some.inj H
  go_wp2
  go_ret; exact ⟨by first | rfl | (simp; done) | (simp [*]; done), by repeat (first | exact Drawn0.refl _ | apply Drawn0.step)⟩

end Go.Proofs.Ytjfknflhajeglab.PFnExactTreeTenant
