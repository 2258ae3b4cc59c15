-- by a program of this session's, over the kit's words
import Derived.Test.YtjhgkonacdimfabPZFnExactCmdOk
import Derived.Test.YtjhgkonacdimfabPFnExactCmdOkx0
import Derived.Test.YtjhgkonacdimfabPFnExactCmdOkx1
import Derived.Test.YtjhgkonacdimfabPFnExactCmdOkx16
import Derived.Test.YtjhgkonacdimfabPFnExactCmdOkx17
namespace Go.Proofs.Ytjhgkonacdimfab.PFnExactCmdOk
open Go.RowKit Go.Proofs.YtjhgkonacdimfabW.PrintWords Go.Proofs.YtjhgkonacdimfabW.PrintLast Go.Proofs.YtjhgkonacdimfabW.PrintMore Go.Proofs.YtjhgkonacdimfabV Go.Proofs.Ytjhgkonacdimfab.ZFnExactCmdOk
open Go.Value renaming int → I, slice → Y
open Go.IntKind renaming i64 → L
open Aside0 renaming mk → D
open Option renaming bind_eq_some_iff → bs_
attribute [local go_sem] max2_int min2_int max_two min_two max_three min_three max_four min_four   -- for this text's walks alone
set_option linter.unusedVariables false
set_option linter.unusedSimpArgs false

attribute [local go_sem high] eqA35
/-! ### impl_Cut: function 51 -/
mutual
def impl_Cut.j0 : Nat → Int → Bool → Int → Int → Int → Int → Int → Option (Int × Int × Int × Int × Int)
 | 0, _, _, _, _, _, _, _ => none
 | k + 1,x1,x19,x396000,x396001,x396002,x396003,x396004=>if x19=true then (some (0,0,0,0,0)) else ((impl_AddrBytes.f k x396000 x396001 x396002 x396003 x396004).bind fun t400=>(impl_Cut.l0 k x1 t400 (t400.length:Int) 0))
def impl_Cut.l0 : Nat → Int → List Int → Int → Int → Option (Int × Int × Int × Int × Int)
 | 0, _, _, _, _ => none
 | k + 1,x1,x5,x24,x25=>if x25 < x24 then ((impl_Clip.f (wrap64 (x1 - (wrap64 (8 * x25)))) 0 8).bind fun t403=>(if 0≤x25 then (if x25 < (x5.length:Int) then (if 0≤t403 then (impl_Cut.l0 k x1 (x5.set (x25:Int).toNat (Go.bits .and .u8 (rd x5 x25) ((shr .u16 65280 t403) % 256))) x24 (wrap64 (x25 + 1))) else (none)) else (none)) else (none))) else ((impl_AddrOf.f k x5).bind fun bt406=>(some (bt406.1,bt406.2.1,bt406.2.2.1,bt406.2.2.2.1,bt406.2.2.2.2.1)))
end
def impl_Cut.f (k : Nat) (a0_0 a0_1 a0_2 a0_3 a0_4 a1 : Int) : Option (Int × Int × Int × Int × Int) := (impl_AddrOk.f a0_0 a0_1 a0_2 a0_3 a0_4).bind fun t397 => (if t397 = true then ((impl_bitsOf.f a0_0 a0_1 a0_2 a0_3 a0_4).bind fun t398 => ((impl_within.f a1 0 t398).bind fun t399 => (impl_Cut.j0 k a1 (!t399) a0_0 a0_1 a0_2 a0_3 a0_4))) else (impl_Cut.j0 k a1 true a0_0 a0_1 a0_2 a0_3 a0_4))
def impl_Cut.T8 : Bool × List (List Nat × List Nat) := (true, [([], []), ([], []), ([0, 1], [0, 1]), ([2], [2]), ([], []), ([4], [4]), ([5], [5]), ([3, 6], [3, 6]), ([0, 1, 0, 1, 2, 3, 4, 5, 6, 7], [0, 1]), ([8, 7, 0, 1, 2, 3, 4, 5, 6, 7], [7, 8])])
def impl_Cut.B8 : List Nat := [0, 0, 3, 7, 0, 16, 48, 127, 255, 511]
theorem impl_Cut.tab8 : rtab .any (opsOf Try.f51 8) = impl_Cut.T8 := by kernel_rfl
theorem impl_Cut.bits8 : waitsOk impl_Cut.T8.2 impl_Cut.B8 = true := by kernel_rfl
set_option maxHeartbeats 8000000 in
set_option maxRecDepth 100000 in
theorem impl_Cut.calls (k : Nat) (a0_0 a0_1 a0_2 a0_3 a0_4 a1 r1 r2 r3 r4 r5 : Int) (w : World) (h : impl_Cut.f k a0_0 a0_1 a0_2 a0_3 a0_4 a1 = some (r1, r2, r3, r4, r5)) :
  Calls Try.prog 51 #[.agg #[I L a0_0,I L a0_1,I L a0_2,I L a0_3,I L a0_4],I L a1] w fun e w'=>e=.returned (.agg #[I L r1,I L r2,I L r3,I L r4,I L r5])∧Below w.heap.size w w':=by
 have hu35 := Try.underlying35
 have HB := D (Below.refl w.heap.size w)
 have H:((impl_AddrOk.f a0_0 a0_1 a0_2 a0_3 a0_4).bind fun Md=>(if Md=true then ((impl_bitsOf.f a0_0 a0_1 a0_2 a0_3 a0_4).bind fun Oc=>((impl_within.f a1 0 Oc).bind fun Uc=>(impl_Cut.j0 k a1 (!Uc) a0_0 a0_1 a0_2 a0_3 a0_4))) else (impl_Cut.j0 k a1 true a0_0 a0_1 a0_2 a0_3 a0_4)))=some (r1,r2,r3,r4,r5):=h
 clear h
 have HC3 := D H
 clear H
 go_enter Try.func51, Try.ntmps51
 go_upto_region 1 with (first|((with_reducible refine gate_dst (N:=2) rfl ?_);refine bx_ (N:=2) (cs:=#[I L a0_0,I L a0_1,I L a0_2,I L a0_3,I L a0_4]) (t:=35) ?_;intro Xa hg w4 hbox hb;have n_:=an_ (below_step (pB_ HB.out) hb)<|an_ (hbox)<|an_ (bg_ hg (pB_ HB.out):w.heap.size≤Xa)<|D (bg_ hg (pB_ HB.out):w.heap.size≤Xa);clear HB;obtain ⟨HB,Ja,Op,Oj⟩:=n_;clear hb hbox hg)|((with_reducible refine gate_dst (N:=4) rfl ?_);refine bx_ (N:=4) (cs:=#[I L 0,I L 0,I L 0,I L 0,I L 0]) (t:=35) ?_;intro Ua hg w5 hbox hb;have n_:=an_ (blk_below (pk_ Ja.out) hb)<|an_ (below_step (pB_ HB.out) hb)<|an_ (hbox)<|an_ (bg_ hg (pB_ HB.out):w.heap.size≤Ua)<|an_ (bg_ hg (pB_ HB.out):w.heap.size≤Ua)<|an_ (nl_ hg (pk_ Ja.out):Xa≠Ua)<|D (by rw [hg];exact Nat.ne_of_gt (blk_lt (pk_ Ja.out)):Ua≠Xa);clear Ja HB;obtain ⟨Ja,HB,Ka,Up,Uj,Jc,Kc⟩:=n_;clear hb hbox hg))
 (try simp only [Act.put, List.setIfInBounds_toArray, List.set_cons_zero, List.set_cons_succ])
 go_cut [19] (fun v19 wc=>∃ (kq:Nat) (Xc:Bool),v19=.bool Xc∧Aside0 (impl_Cut.j0 kq a1 Xc a0_0 a0_1 a0_2 a0_3 a0_4=some (r1,r2,r3,r4,r5))∧Aside0 (kq≤k)∧Aside0 (wc.heap[Xa]?=some (.cells #[I L a0_0,I L a0_1,I L a0_2,I L a0_3,I L a0_4] 35 (0,0)))∧Aside0 (wc.heap[Ua]?=some (.cells #[I L 0,I L 0,I L 0,I L 0,I L 0] 35 (0,0)))∧Aside0 (Below w.heap.size w wc))
 case first =>
  have H := HC3.out; clear HC3; obtain ⟨Md, A60, H⟩ := bs_.mp H; (try dsimp only at H); have A6 := D A60; clear A60
  by_cases c7 : Md = true
  ·subst c7
   rw [if_pos rfl] at H;obtain ⟨Oc,A80,H⟩:=bs_.mp H;(try dsimp only at H);have A8:=D A80;clear A80;obtain ⟨Uc,A90,H⟩:=bs_.mp H;(try dsimp only at H);have A9:=D A90;clear A90;have H':=D H;clear H;(try have:=Jc.out);(try have:=Kc.out);have Je:=cells5 Ja.out
   go_wp2_with (first|((with_reducible refine gate_callee (f:=49) rfl ?_);refine goesL_ (some 11) rfl rfl Try.func49 (by kernel_rfl) rfl #[.agg #[I L a0_0,I L a0_1,I L a0_2,I L a0_3,I L a0_4]] rfl Z6 ?_;(with_reducible refine (impl_AddrOk.calls a0_0 a0_1 a0_2 a0_3 a0_4 true _ A6.out).mono ?_);rintro e w12 ⟨rfl,hb⟩;refine ⟨_,rfl,?_⟩;have n_:=an_ (blk_below (pk_ Ja.out) hb)<|an_ (blk_below (pk_ Ka.out) hb)<|D (below_step (pB_ HB.out) hb);clear Ja Ka HB;obtain ⟨Ja,Ka,HB⟩:=n_;(try clear hb);have Uf:=cells5 Ja.out)|(go_at_call 50;(with_reducible refine (impl_bitsOf.calls a0_0 a0_1 a0_2 a0_3 a0_4 Oc _ A8.out).mono ?_);rintro e w14 ⟨rfl,hb⟩;have n_:=an_ (blk_below (pk_ Ja.out) hb)<|an_ (blk_below (pk_ Ka.out) hb)<|D (below_step (pB_ HB.out) hb);clear Ja Ka HB;obtain ⟨Ja,Ka,HB⟩:=n_;(try clear hb))|(go_at_call 18;(with_reducible refine (impl_within.calls a1 0 Oc Uc _ A9.out).mono ?_);rintro e w' ⟨rfl,⟨nd,rfl⟩⟩))
   go_meet
   case rel => exact ⟨_, (!Uc), Z11, H', ⟨by first | omega | exact Nat.le_refl _⟩, ⟨pk_ Ja.out⟩, ⟨pk_ Ka.out⟩, ⟨pB_ HB.out⟩⟩
  ·replace c7 := Bool.eq_false_iff.mpr c7
   subst c7;rw [if_neg (show ¬ (false=true) by decide)] at H;have H':=D H;clear H;(try have:=Jc.out);(try have:=Kc.out);have Mh:=cells5 Ja.out
   go_wp2_with (first|((with_reducible refine gate_callee (f:=49) rfl ?_);refine goesL_ (some 11) rfl rfl Try.func49 (by kernel_rfl) rfl #[.agg #[I L a0_0,I L a0_1,I L a0_2,I L a0_3,I L a0_4]] rfl Z6 ?_;(with_reducible refine (impl_AddrOk.calls a0_0 a0_1 a0_2 a0_3 a0_4 false _ A6.out).mono ?_);rintro e w17 ⟨rfl,hb⟩;refine ⟨_,rfl,?_⟩;have n_:=an_ (blk_below (pk_ Ja.out) hb)<|an_ (blk_below (pk_ Ka.out) hb)<|D (below_step (pB_ HB.out) hb);clear Ja Ka HB;obtain ⟨Ja,Ka,HB⟩:=n_;(try clear hb)))
   go_meet
   case rel => exact ⟨_, (true), Z11, H', ⟨by first | omega | exact Nat.le_refl _⟩, ⟨pk_ Ja.out⟩, ⟨pk_ Ka.out⟩, ⟨pB_ HB.out⟩⟩
 case rest =>
  clear HC3
  (try clear c1);(try clear p2);(try clear c4);(try clear c5);(try clear c7);(try clear c10);(try clear c15);(try clear Je);(try clear Uf);(try clear Mh)
  obtain ⟨kq, Xc, rfl, HA, HJ2, Ja, Ka, HB⟩ := hcut
  cases kq with
  | zero => exact absurd HA.out (by simp [impl_Cut.j0])
  | succ kj2 =>
   have H := HA.out; clear HA; simp only [impl_Cut.j0] at H
   by_cases c18 : Xc = true
   ·subst c18
    rw [if_pos rfl] at H;simp only [Option.some.injEq,Prod.mk.injEq] at H;obtain ⟨rfl,rfl,rfl,rfl,rfl⟩:=H;(try have:=Kc.out);(try have:=Jc.out);have Xj:=cells5 Ka.out
    go_wp2
    refine bodyPost_ret (results_cell_row rfl _ _ Ua 35 #[I L 0,I L 0,I L 0,I L 0,I L 0] (0,0) _ rfl Z1 Try.underlying35 rfl (by kernel_rfl)) rfl ?_;exact ⟨er_,pB_ HB.out⟩
   ·replace c18 := Bool.eq_false_iff.mpr c18
    subst c18;rw [if_neg (show ¬ (false=true) by decide)] at H;obtain ⟨Mb,A210,H⟩:=bs_.mp H;(try dsimp only at H);have A21:=D A210;clear A210;have H':=D H;clear H;(try have:=Jc.out);(try have:=Kc.out);have Om:=cells5 Ja.out
    go_wp2_with (first|((with_reducible refine gate_callee (f:=59) rfl ?_);refine goesL_ (some 22) rfl rfl Try.func59 (by kernel_rfl) rfl #[.agg #[I L a0_0,I L a0_1,I L a0_2,I L a0_3,I L a0_4]] rfl Z6 ?_;(with_reducible refine (impl_AddrBytes.calls kj2 a0_0 a0_1 a0_2 a0_3 a0_4 Mb _ A21.out).mono ?_);rintro e w24 ⟨Xp,rfl,ho0,hb⟩;refine ⟨_,rfl,?_⟩;have n_:=an_ (Kd.R_lower ho0 (below_size (pB_ HB.out)))<|an_ (blk_below (pk_ Ja.out) hb)<|an_ (blk_below (pk_ Ka.out) hb)<|D (below_step (pB_ HB.out) hb);clear Ja Ka HB;obtain ⟨Jj,Ja,Ka,HB⟩:=n_;(try clear hb);(try clear ho0);obtain ⟨Od,Ud,eo25⟩:=Kd.R_slice Jj.out;subst eo25))
    go_loopg [25] kj2 (fun kq v25 w'=>∃ (x5_2:List Int) (Ma:Int),v25=I L Ma∧Aside0 (impl_Cut.l0 kq a1 x5_2 (Mb.length:Int) Ma=some (r1,r2,r3,r4,r5))∧Aside0 (kq≤kj2)∧Aside0 (Kd.R (Kd.int .u8) 5 w' w.heap.size (fun _=>True) (Y Od Mb.length Ud) x5_2)∧Aside0 (w'.heap[Xa]?=some (.cells #[I L a0_0,I L a0_1,I L a0_2,I L a0_3,I L a0_4] 35 (0,0)))∧Aside0 (w'.heap[Ua]?=some (.cells #[I L 0,I L 0,I L 0,I L 0,I L 0] 35 (0,0)))∧Aside0 (Below w.heap.size w w'))
    case atStart => exact ⟨(Mb), (0), Z11, H', ⟨Nat.le_refl _⟩, ⟨pR_ Jj.out⟩, ⟨pk_ Ja.out⟩, ⟨pk_ Ka.out⟩, ⟨pB_ HB.out⟩⟩
    case round =>
     clear H'
     (try clear c1);(try clear c2);(try clear p2);(try clear c4);(try clear c5);(try clear c7);(try clear c10);(try clear c15);(try clear c18);(try clear c19);(try clear c22);(try clear Je);(try clear Uf);(try clear Mh);(try clear Xj);(try clear Om);(try clear p2)
     obtain ⟨x5_2,Ma,rfl,HA,HK2,Oa,Ja,Ka,HB⟩:=hrel;have hl5_2:=(Kd.R_reads' Oa.out).1;rw [hl5_2] at Oa;(try simp only [hl5_2]);(try simp only [hl5_2] at Ja);(try simp only [hl5_2] at Ka)
     cases gk with
     | zero => exact absurd HA.out (by simp [impl_Cut.l0])
     | succ k2 =>
      have H := HA.out; clear HA; simp only [impl_Cut.l0] at H
      by_cases c26 : Ma < (Mb.length : Int)
      ·rw [if_pos c26] at H
       have c26b0:decide (Ma < (Mb.length:Int))=true:=decide_eq_true c26;clear c26;(try (have c26h:=c26b0;simp only [hl5_2] at c26h));obtain ⟨Ob,A270,H⟩:=bs_.mp H;(try dsimp only at H);have A27:=D A270;clear A270
       by_cases c28 : 0 ≤ Ma
       ·rw [if_pos c28] at H
        have c28b0 : decide (0 ≤ Ma) = true := decide_eq_true c28; clear c28
        by_cases c29 : Ma < (x5_2.length : Int)
        ·rw [if_pos c29] at H
         have c29b0 : decide (Ma < (x5_2.length : Int)) = true := decide_eq_true c29; clear c29; (try (have c29h := c29b0; simp only [hl5_2] at c29h))
         by_cases c30 : 0 ≤ Ob
         ·rw [if_pos c30] at H
          have c30b0 := eq_true c30; have c30b1 : decide (0 ≤ Ob) = true := decide_eq_true c30; clear c30; obtain ⟨ji31, hji31⟩ : ∃ j_ : Int, (shr .u16 65280 Ob) = j_ := ⟨_, rfl⟩
          replace H:(impl_Cut.l0 k2 a1 (x5_2.set (Ma:Int).toNat (Go.bits .and .u8 (rd x5_2 Ma) ((ji31) % 256))) (Mb.length:Int) (wrap64 (Ma + 1)))=some (r1,r2,r3,r4,r5):=by first|(rw [hji31] at H;exact H)|(simp only [hji31] at H ⊢;exact H)
          (try rw [hji31] at A27);have hji31_:(65280 / 2 ^ min Ob.toNat 16)=ji31:=hji31;have hji31z:Ob≤16 → (65280 / 2 ^ Ob.toNat)=ji31:=shr_small hji31;obtain ⟨y405,hy405⟩:∃ y_:List Int,y_=(x5_2.set (Ma:Int).toNat (Go.bits .and .u8 (rd x5_2 Ma) ((ji31) % 256))):=⟨_,rfl⟩
          replace H:(impl_Cut.l0 k2 a1 y405 (Mb.length:Int) (wrap64 (Ma + 1)))=some (r1,r2,r3,r4,r5):=by first|(rw [hy405];with_reducible exact H)|(have H2_:=(Option.bind_some _ _).symm.trans H;rw [hy405];with_reducible exact H2_)|(have H2_:=(Option.bind_some _ _).symm.trans H;with_reducible exact H2_)|with_reducible exact H|(rw [hy405];exact H)|exact H
          have Ny405 := D hy405; clear hy405; have H' := D H; clear H
          try go_wp2_with (first|((with_reducible refine gate_callee (f:=60) rfl ?_);refine goesL_ (some 32) rfl rfl Try.func60 (by kernel_rfl) rfl #[I L (wrap64 (a1 - (wrap64 (8 * Ma)))),I L 0,I L 8] rfl Z6 ?_;(with_reducible refine (impl_Clip.calls (wrap64 (a1 - (wrap64 (8 * Ma)))) 0 8 Ob _ A27.out).mono ?_);rintro e w' ⟨rfl,⟨nd,rfl⟩⟩;refine ⟨_,rfl,?_⟩;(try (rw [drewN_self wr];generalize hq_:World.drewN wr _=wr;have n0_:Aside0 (Kd.R (Kd.int .u8) 5 wr w.heap.size (fun _=>True) (Y Od x5_2.length Ud) x5_2):=⟨by rw [← hq_];exact (pR_ Oa.out)⟩;have n1_:Aside0 (wr.heap[Xa]?=some (.cells #[I L a0_0,I L a0_1,I L a0_2,I L a0_3,I L a0_4] 35 (0,0))):=⟨by rw [← hq_];exact (pk_ Ja.out)⟩;have n2_:Aside0 (wr.heap[Ua]?=some (.cells #[I L 0,I L 0,I L 0,I L 0,I L 0] 35 (0,0))):=⟨by rw [← hq_];exact (pk_ Ka.out)⟩;have n3_:Aside0 (Below w.heap.size w wr):=⟨by rw [← hq_];exact (pB_ HB.out)⟩;clear Oa Ja Ka HB hq_;have Oa:=n0_;have Ja:=n1_;have Ka:=n2_;have HB:=n3_;clear n0_ n1_ n2_ n3_))))
          have n_ := an_ (Kd.R_drew Oa.out) <| an_ (blk_drew Ja.out) <| an_ (blk_drew Ka.out) <| D (below_drew1 HB.out)
          clear Oa Ja Ka HB;obtain ⟨Oa,Ja,Ka,HB⟩:=n_;have p404:0≤(Ma:Int):=od_ Z10;have q404:Ma < (x5_2.length:Int):=od_ Z10;obtain ⟨ad404,e404,hx404_0⟩:=Kd.at_int (Kd.R_reads' Oa.out).2.2 Ma p404 q404;cases e404;replace p404:=eq_true p404;replace q404:=eq_true q404;have p32:0≤(Ma:Int):=od_ Z10;have q32:(Ma:Int) < ((x5_2.length:Int):Int):=od_ Z10;obtain ⟨go32,Jq,eo32,Kj,gl32,cl32,HG32⟩:=Kd.R_form Oa.out (by omega);(first|cases eo32|(injection eo32 with ea_ en_ ec_;(first|subst ea_|(injection ea_ with ea_;subst ea_));subst ec_;clear en_));have GB32:=D Kj;have GG32:=D HG32;clear Kj gl32 HG32;(first|simp only [add_plain] at hx404_0|skip);obtain ⟨hx32_0,hf32_0⟩:=Kd.R_celln 0 Oa.out (Ma:Int) p32 q32;replace p32:=eq_true p32;replace q32:=eq_true q32;have HP34:=Kd.R_putn Oa.out (Ma:Int) (Go.bits .and .u8 (rd x5_2 Ma) ((ji31) % 256));rw [← Ny405.out] at HP34;have HQ34:=D HP34;clear HP34;refine start_ (n:=10) (S:=fun w'=>w'.cell? ⟨go32,(Ma).toNat,none⟩=some (.int .u8 (rd x5_2 Ma))) (ds:=[9]) (bz 10 0) (by kernel_rfl) rfl (by kernel_rfl) (hx404_0) (fun hHeld=>?_);refine with_tabW impl_Cut.tab8 impl_Cut.bits8 (fun HT_ HW_=>?_);generalize wr.drew=w33 at Oa Ja Ka HB GG32 HQ34 hf32_0 hx32_0 hx404_0 hHeld ⊢;refine pb_ 0 ?_;refine pb_ 1 ?_;refine pb_ 2 ?_;refine pb_ 4 ?_;refine pb_ 5 ?_;refine pb_ 6 ?_;refine ta_ 3 36 10 127 HT_ HW_ rfl rfl hHeld (by intro w' s0;go_simp;with_reducible rfl) ?_;refine pb_ 7 ?_;refine pb_ 8 ?_;refine last_ (i:=9) (N:=none) (bz 10 1023) rfl rfl (one_of HT_.out (by kernel_rfl)) (by decide) (fun K hK=>?_);refine skip_ (w1:=?_) (by rfl) rfl ?_ ?_;rotate_left
          ·go_simp
           rfl
          refine hK.out _ _ ?_; clear hK K; refine done_ (done_of HT_.out (by kernel_rfl)) ?_
          try go_wp2
          (try simp only [← hl5_2]); go_roundg k2
          case measure => have := HJ2.out; have := HK2.out; omega
          case rel=>exact ⟨(y405),(wrap64 (Ma + 1)),Z11,H',⟨by have:=HJ2.out;have:=HK2.out;omega⟩,⟨by (try simp only [hl5_2]);(with_reducible repeat (first|apply Kd.R_alloc|apply Kd.R_drewN|apply Kd.R_drew));exact HQ34.out⟩,⟨by (try simp only [hl5_2]);refine pk_ ?_;refine blk_far ?_ (by have h_:=Kd.R_ne Oa.out Ja.out (by decide);intro e_;exact h_ (by rw [e_];rfl)) _;refine pk_ ?_;exact Ja.out⟩,⟨by (try simp only [hl5_2]);refine pk_ ?_;refine blk_far ?_ (by have h_:=Kd.R_ne Oa.out Ka.out (by decide);intro e_;exact h_ (by rw [e_];rfl)) _;refine pk_ ?_;exact Ka.out⟩,⟨by repeat (first|(with_reducible first|exact HB.out|apply below_alloc|apply pw_below_drewN|apply below_drew1|refine below_set ?_ GB32.out|refine below_set ?_ Oj.out|refine below_set ?_ Uj.out)|exact HB.out)⟩⟩
         ·rw [if_neg c30] at H
          exact absurd H (by simp)
        ·rw [if_neg c29] at H
         exact absurd H (by simp)
       ·rw [if_neg c28] at H
        exact absurd H (by simp)
      ·rw [if_neg c26] at H
       have c26b0:decide (Ma < (Mb.length:Int))=false:=decide_eq_false c26;clear c26;(try (have c26h:=c26b0;simp only [hl5_2] at c26h));obtain ⟨⟨Ub,Mc,Jd,Xd,Mj,Ko⟩,A350,H⟩:=bs_.mp H;(try dsimp only at H);have A35:=D A350;clear A350;simp only [Option.some.injEq,Prod.mk.injEq] at H;obtain ⟨rfl,rfl,rfl,rfl,rfl⟩:=H
       go_wp2_with (first|((with_reducible refine gate_callee (f:=61) rfl ?_);refine goesL_ (some 45) rfl rfl Try.func61 (by kernel_rfl) rfl #[Y Od x5_2.length Ud] rfl Z6 ?_;(with_reducible refine (impl_AddrOf.calls k2 _ _ x5_2 Ub Mc Jd Xd Mj Ko _ ?side1 ?side2 A35.out).mono ?_);(case side1=>exact pC_ ((Kd.R_reads' Oa.out).2.2));(case side2=>exact (Kd.R_reads' Oa.out).2.1);rintro e w36 ⟨rfl,hb⟩;refine ⟨_,rfl,?_⟩;have n_:=an_ (Kd.R_below (pR_ Oa.out) hb)<|an_ (blk_below (pk_ Ja.out) hb)<|an_ (blk_below (pk_ Ka.out) hb)<|D (below_step (pB_ HB.out) hb);clear Oa Ja Ka HB;obtain ⟨Oa,Ja,Ka,HB⟩:=n_;(try clear hb))|((with_reducible refine gate_dst (N:=8) rfl ?_);refine bx_ (N:=8) (cs:=#[I L 0,I L 0,I L 0,I L 0,I L 0]) (t:=35) ?_;intro Jb hg w37 hbox hb;have n_:=an_ (Kd.R_below (pR_ Oa.out) hb)<|an_ (blk_below (pk_ Ja.out) hb)<|an_ (blk_below (pk_ Ka.out) hb)<|an_ (below_step (pB_ HB.out) hb)<|an_ (hbox)<|an_ (bg_ hg (pB_ HB.out):w.heap.size≤Jb)<|an_ (bg_ hg (pB_ HB.out):w.heap.size≤Jb)<|an_ (nl_ hg (pk_ Ja.out):Xa≠Jb)<|an_ (ng_ hg (pk_ Ja.out):Jb≠Xa)<|an_ (nl_ hg (pk_ Ka.out):Ua≠Jb)<|D (by rw [hg];exact Nat.ne_of_gt (blk_lt (pk_ Ka.out)):Jb≠Ua);clear Oa Ja Ka HB;obtain ⟨Oa,Ja,Ka,HB,Kb,Kq,Mq,Mo,Oo,Xb,Uo⟩:=n_;clear hb hbox hg;(try have:=Oo.out);(try have:=Mo.out);(try have:=Uo.out);(try have:=Xb.out);have Oq:=cells5 Kb.out;(try have:=Kc.out);(try have:=Jc.out);have Ks:=cells5 Ka.out))
       refine bodyPost_ret (results_cell_row rfl _ _ Ua 35 #[I L Ub,I L Mc,I L Jd,I L Xd,I L Mj] (0,0) _ rfl (by exact pP_ Ka.out) Try.underlying35 rfl (by kernel_rfl)) rfl ?_;exact ⟨er_,pB_ HB.out⟩

/-! ### impl_PrefixOk: function 34 -/
def impl_PrefixOk.f (k : Nat) (a0_0 a0_1 a0_2 a0_3 a0_4 a0_5 : Int) : Option (Bool) := (impl_isAny.f a0_0 a0_1 a0_2 a0_3 a0_4 a0_5).bind fun Xo => (if Xo = true then (some true) else ((impl_AddrOk.f a0_0 a0_1 a0_2 a0_3 a0_4).bind fun Jp => (if Jp = true then ((impl_bitsOf.f a0_0 a0_1 a0_2 a0_3 a0_4).bind fun Kp => ((impl_within.f a0_5 0 Kp).bind fun Mp => (if Mp = true then ((impl_Cut.f k a0_0 a0_1 a0_2 a0_3 a0_4 a0_5).bind fun bt418 => (some (bt418.1 == a0_0 && (bt418.2.1 == a0_1 && (bt418.2.2.1 == a0_2 && (bt418.2.2.2.1 == a0_3 && (bt418.2.2.2.2 == a0_4))))))) else (some false)))) else (some false))))
def impl_PrefixOk.T1 : Bool × List (List Nat × List Nat) := (true, [([], []), ([0], [0]), ([1, 1], [1]), ([2], [2]), ([3, 2], [2, 3]), ([4, 2, 2], [2, 4]), ([5, 5, 2], [2, 5]), ([6], [6]), ([7, 6], [6, 7]), ([6], [6]), ([9, 6], [6, 9]), ([10, 6, 6], [6, 10]), ([8, 11, 11, 6], [6, 8, 11]), ([6, 12, 2], [2, 6, 12]), ([13, 12, 2], [2, 13]), ([14], [14]), ([15, 14], [14, 15]), ([14], [14]), ([17, 14], [14, 17]), ([16, 18, 14, 14], [14, 16, 18]), ([14], [14]), ([20, 14], [14, 20]), ([19, 21, 14], [14, 19, 21]), ([14, 22, 2], [2, 14, 22]), ([2, 23], [2, 23]), ([24, 19, 0, 1, 2, 3, 4, 5, 6, 7, 8, 9, 10, 11, 12, 13, 14, 15, 16, 17, 18, 19, 20, 21, 22, 23, 24], [24])])
def impl_PrefixOk.B1 : List Nat := [0, 1, 3, 7, 15, 31, 63, 127, 255, 127, 639, 1663, 4095, 8191, 16383, 32767, 65535, 32767, 163839, 524287, 32767, 1081343, 4194303, 8388607, 16777215, 33554431]
theorem impl_PrefixOk.tab1 : rtab .any (opsOf Try.f34 1) = impl_PrefixOk.T1 := by kernel_rfl
theorem impl_PrefixOk.bits1 : waitsOk impl_PrefixOk.T1.2 impl_PrefixOk.B1 = true := by kernel_rfl
set_option maxHeartbeats 8000000 in
set_option maxRecDepth 100000 in
theorem impl_PrefixOk.calls (k : Nat) (a0_0 a0_1 a0_2 a0_3 a0_4 a0_5 : Int) (r : Bool) (w : World) (h : impl_PrefixOk.f k a0_0 a0_1 a0_2 a0_3 a0_4 a0_5 = some r) :
  Calls Try.prog 34 #[.agg #[I L a0_0, I L a0_1, I L a0_2, I L a0_3, I L a0_4, I L a0_5]] w fun e w' => e = .returned (.bool r) ∧ Below w.heap.size w w' := by
 have hu37 := Try.underlying37
 have hu35 := Try.underlying35
 have HB := D (Below.refl w.heap.size w)
 have H:((impl_isAny.f a0_0 a0_1 a0_2 a0_3 a0_4 a0_5).bind fun Oa=>(if Oa=true then (some true) else ((impl_AddrOk.f a0_0 a0_1 a0_2 a0_3 a0_4).bind fun Ua=>(if Ua=true then ((impl_bitsOf.f a0_0 a0_1 a0_2 a0_3 a0_4).bind fun Ma=>((impl_within.f a0_5 0 Ma).bind fun Xa=>(if Xa=true then ((impl_Cut.f k a0_0 a0_1 a0_2 a0_3 a0_4 a0_5).bind fun bt418=>(some (bt418.1 == a0_0 && (bt418.2.1 == a0_1 && (bt418.2.2.1 == a0_2 && (bt418.2.2.2.1 == a0_3 && (bt418.2.2.2.2 == a0_4))))))) else (some false)))) else (some false)))))=some r:=h
 clear h
 obtain ⟨Oa, A20, H⟩ := bs_.mp H
 (try dsimp only at H)
 have A2 := D A20
 clear A20
 by_cases c3 : Oa = true
 ·subst c3
  rw [if_pos rfl] at H; obtain rfl := Option.some.inj H; go_enter Try.func34, Try.ntmps34
  try go_wp2_with (first|((with_reducible refine gate_dst (N:=1) rfl ?_);refine bx_ (N:=1) (cs:=#[I L a0_0,I L a0_1,I L a0_2,I L a0_3,I L a0_4,I L a0_5]) (t:=37) ?_;intro Ka hg w4 hbox hb;have n_:=an_ (below_step (pB_ HB.out) hb)<|an_ (hbox)<|an_ (bg_ hg (pB_ HB.out):w.heap.size≤Ka)<|D (bg_ hg (pB_ HB.out):w.heap.size≤Ka);clear HB;obtain ⟨HB,Ja,Jb,Kb⟩:=n_;clear hb hbox hg))
  have n_ := an_ (blk_drew Ja.out) <| D (below_drew1 HB.out)
  clear Ja HB;obtain ⟨Ja,HB⟩:=n_;refine start_ (n:=26) (S:=fun w'=>w'.cell? ⟨Ka,0,none⟩=some (I L a0_0)∧w'.cell? ⟨Ka,1,none⟩=some (I L a0_1)∧w'.cell? ⟨Ka,2,none⟩=some (I L a0_2)∧w'.cell? ⟨Ka,3,none⟩=some (I L a0_3)∧w'.cell? ⟨Ka,4,none⟩=some (I L a0_4)∧w'.cell? ⟨Ka,5,none⟩=some (I L a0_5)) (ds:=[]) (bz 26 0) (by kernel_rfl) rfl (by kernel_rfl) (be6_ Ja.out) (fun hHeld=>?_);refine with_tabW impl_PrefixOk.tab1 impl_PrefixOk.bits1 (fun HT_ HW_=>?_);generalize w4.drew=w5 at Ja HB hHeld ⊢;refine tb_ 0 rfl rfl hHeld Z8 ?_;refine oa_ 1 4 26 3 HT_ (fun K hK=>?_);refine goes_ Try.func48 (by kernel_rfl) rfl #[.agg #[I L a0_0,I L a0_1,I L a0_2,I L a0_3,I L a0_4,I L a0_5]] (by rfl) rfl rfl Z6 ?_;with_reducible refine (impl_isAny.calls a0_0 a0_1 a0_2 a0_3 a0_4 a0_5 true _ A2.out).mono ?_
  rintro e w6 ⟨rfl, hb⟩; refine ⟨_, rfl, ?_⟩
  have n_ := an_ (blk_below (pk_ Ja.out) hb) <| D (below_step (pB_ HB.out) hb)
  clear Ja HB;obtain ⟨Ja,HB⟩:=n_;refine hK.out _ _ (be6_ Ja.out) (fun hHeld=>?_);clear hK K;refine nx_ (N:=some 4) ?_;refine pb_ 2 ?_;refine ob_ 3 ?_;refine ob_ 4 ?_;refine ob_ 5 ?_;refine ob_ 6 ?_;refine ob_ 7 ?_;refine ob_ 8 ?_;refine ob_ 9 ?_;refine ob_ 10 ?_;refine ob_ 11 ?_;refine ob_ 12 ?_;refine ob_ 13 ?_;refine ob_ 14 ?_;refine ob_ 15 ?_;refine ob_ 16 ?_;refine ob_ 17 ?_;refine ob_ 18 ?_;refine ob_ 19 ?_;refine ob_ 20 ?_;refine ob_ 21 ?_;refine ob_ 22 ?_;refine ob_ 23 ?_;refine pb_ 24 ?_;refine pb_ 25 ?_;refine done_ (done_of HT_.out (by kernel_rfl)) ?_
  try go_wp2
  go_ret; exact ⟨er_, pB_ HB.out⟩
 ·replace c3 := Bool.eq_false_iff.mpr c3
  subst c3; rw [if_neg (show ¬ (false = true) by decide)] at H; obtain ⟨Ua, A70, H⟩ := bs_.mp H; (try dsimp only at H); have A7 := D A70; clear A70
  by_cases c8 : Ua = true
  ·subst c8
   rw [if_pos rfl] at H;obtain ⟨Ma,A90,H⟩:=bs_.mp H;(try dsimp only at H);have A9:=D A90;clear A90;obtain ⟨Xa,A100,H⟩:=bs_.mp H;(try dsimp only at H);have A10:=D A100;clear A100
   by_cases c11 : Xa = true
   ·subst c11
    rw [if_pos rfl] at H;obtain ⟨⟨Mb,Ob,Ub,Xb,Jc⟩,A120,H⟩:=bs_.mp H;(try dsimp only at H);have A12:=D A120;clear A120;obtain rfl:=Option.some.inj H;go_enter Try.func34,Try.ntmps34
    try go_wp2_with (first|((with_reducible refine gate_dst (N:=1) rfl ?_);refine bx_ (N:=1) (cs:=#[I L a0_0,I L a0_1,I L a0_2,I L a0_3,I L a0_4,I L a0_5]) (t:=37) ?_;intro Ka hg w13 hbox hb;have n_:=an_ (below_step (pB_ HB.out) hb)<|an_ (hbox)<|an_ (bg_ hg (pB_ HB.out):w.heap.size≤Ka)<|D (bg_ hg (pB_ HB.out):w.heap.size≤Ka);clear HB;obtain ⟨HB,Ja,Jb,Kb⟩:=n_;clear hb hbox hg))
    have n_ := an_ (blk_drew Ja.out) <| D (below_drew1 HB.out)
    clear Ja HB;obtain ⟨Ja,HB⟩:=n_;refine start_ (n:=26) (S:=fun w'=>w'.cell? ⟨Ka,0,none⟩=some (I L a0_0)∧w'.cell? ⟨Ka,1,none⟩=some (I L a0_1)∧w'.cell? ⟨Ka,2,none⟩=some (I L a0_2)∧w'.cell? ⟨Ka,3,none⟩=some (I L a0_3)∧w'.cell? ⟨Ka,4,none⟩=some (I L a0_4)∧w'.cell? ⟨Ka,5,none⟩=some (I L a0_5)) (ds:=[]) (bz 26 0) (by kernel_rfl) rfl (by kernel_rfl) (be6_ Ja.out) (fun hHeld=>?_);refine with_tabW impl_PrefixOk.tab1 impl_PrefixOk.bits1 (fun HT_ HW_=>?_);generalize w13.drew=w14 at Ja HB hHeld ⊢;refine tb_ 0 rfl rfl hHeld Z8 ?_;refine oa_ 1 4 26 3 HT_ (fun K hK=>?_);refine goes_ Try.func48 (by kernel_rfl) rfl #[.agg #[I L a0_0,I L a0_1,I L a0_2,I L a0_3,I L a0_4,I L a0_5]] (by rfl) rfl rfl Z6 ?_;with_reducible refine (impl_isAny.calls a0_0 a0_1 a0_2 a0_3 a0_4 a0_5 false _ A2.out).mono ?_
    rintro e w15 ⟨rfl, hb⟩; refine ⟨_, rfl, ?_⟩
    have n_ := an_ (blk_below (pk_ Ja.out) hb) <| D (below_step (pB_ HB.out) hb)
    clear Ja HB;obtain ⟨Ja,HB⟩:=n_;refine hK.out _ _ (be6_ Ja.out) (fun hHeld=>?_);clear hK K;refine nx_ (N:=some 4) ?_;refine pb_ 2 ?_;refine pb_ 3 ?_;refine tb_ 4 rfl rfl hHeld Z8 ?_;refine oa_ 5 8 26 63 HT_ (fun K hK=>?_);refine goes_ Try.func49 (by kernel_rfl) rfl #[.agg #[I L a0_0,I L a0_1,I L a0_2,I L a0_3,I L a0_4]] (by rfl) rfl rfl Z6 ?_;with_reducible refine (impl_AddrOk.calls a0_0 a0_1 a0_2 a0_3 a0_4 true _ A7.out).mono ?_
    rintro e w16 ⟨rfl, hb⟩; refine ⟨_, rfl, ?_⟩
    have n_ := an_ (blk_below (pk_ Ja.out) hb) <| D (below_step (pB_ HB.out) hb)
    clear Ja HB;obtain ⟨Ja,HB⟩:=n_;refine hK.out _ _ (be6_ Ja.out) (fun hHeld=>?_);clear hK K;refine nx_ (N:=some 8) ?_;refine pb_ 6 ?_;refine pb_ 7 ?_;refine pb_ 9 ?_;refine tb_ 8 rfl rfl hHeld Z8 ?_;refine tb_ 10 rfl rfl hHeld Z8 ?_;refine oa_ 11 14 26 4095 HT_ (fun K hK=>?_);refine goes_ Try.func50 (by kernel_rfl) rfl #[.agg #[I L a0_0,I L a0_1,I L a0_2,I L a0_3,I L a0_4]] (by rfl) rfl rfl Z6 ?_;with_reducible refine (impl_bitsOf.calls a0_0 a0_1 a0_2 a0_3 a0_4 Ma _ A9.out).mono ?_
    rintro e w17 ⟨rfl, hb⟩; refine ⟨_, rfl, ?_⟩
    have n_ := an_ (blk_below (pk_ Ja.out) hb) <| D (below_step (pB_ HB.out) hb)
    clear Ja HB;obtain ⟨Ja,HB⟩:=n_;refine hK.out _ _ (be6_ Ja.out) (fun hHeld=>?_);clear hK K;refine nx_ (N:=some 14) ?_;refine oa_ 12 15 26 8191 HT_ (fun K hK=>?_);refine goes_ Try.func18 (by kernel_rfl) rfl #[I L a0_5,I L 0,I L Ma] (by rfl) rfl rfl Z6 ?_;with_reducible refine (impl_within.calls a0_5 0 Ma true _ A10.out).mono ?_
    rintro e w' ⟨rfl,⟨nd,rfl⟩⟩;refine ⟨_,rfl,?_⟩;refine hK.out _ _ (be6_ Ja.out) (fun hHeld=>?_);clear hK K;refine nx_ (N:=some 15) ?_;refine pb_ 13 ?_;refine pb_ 14 ?_;refine pb_ 15 ?_;refine pb_ 17 ?_;refine pb_ 20 ?_;refine tb_ 16 rfl rfl hHeld Z8 ?_;refine tb_ 18 rfl rfl hHeld Z8 ?_;refine tb_ 21 rfl rfl hHeld Z8 ?_;refine oa_ 19 22 26 4194303 HT_ (fun K hK=>?_);refine goes_ Try.func51 (by kernel_rfl) rfl #[.agg #[I L a0_0,I L a0_1,I L a0_2,I L a0_3,I L a0_4],I L a0_5] (by rfl) rfl rfl Z6 ?_;with_reducible refine (impl_Cut.calls k a0_0 a0_1 a0_2 a0_3 a0_4 a0_5 Mb Ob Ub Xb Jc _ A12.out).mono ?_
    rintro e w18 ⟨rfl, hb⟩; refine ⟨_, rfl, ?_⟩
    have n_ := an_ (blk_below (pk_ Ja.out) hb) <| D (below_step (pB_ HB.out) hb)
    clear Ja HB;obtain ⟨Ja,HB⟩:=n_;refine hK.out _ _ (be6_ Ja.out) (fun hHeld=>?_);clear hK K;refine nx_ (N:=some 22) ?_;refine pb_ 22 ?_;refine pb_ 23 ?_;refine pb_ 24 ?_;refine pb_ 25 ?_;refine done_ (done_of HT_.out (by kernel_rfl)) ?_
    try go_wp2
    go_ret; exact ⟨er_, pB_ HB.out⟩
   ·replace c11 := Bool.eq_false_iff.mpr c11
    subst c11; rw [if_neg (show ¬ (false = true) by decide)] at H; obtain rfl := Option.some.inj H; go_enter Try.func34, Try.ntmps34
    try go_wp2_with (first|((with_reducible refine gate_dst (N:=1) rfl ?_);refine bx_ (N:=1) (cs:=#[I L a0_0,I L a0_1,I L a0_2,I L a0_3,I L a0_4,I L a0_5]) (t:=37) ?_;intro Ka hg w19 hbox hb;have n_:=an_ (below_step (pB_ HB.out) hb)<|an_ (hbox)<|an_ (bg_ hg (pB_ HB.out):w.heap.size≤Ka)<|D (bg_ hg (pB_ HB.out):w.heap.size≤Ka);clear HB;obtain ⟨HB,Ja,Jb,Kb⟩:=n_;clear hb hbox hg))
    have n_ := an_ (blk_drew Ja.out) <| D (below_drew1 HB.out)
    clear Ja HB;obtain ⟨Ja,HB⟩:=n_;refine start_ (n:=26) (S:=fun w'=>w'.cell? ⟨Ka,0,none⟩=some (I L a0_0)∧w'.cell? ⟨Ka,1,none⟩=some (I L a0_1)∧w'.cell? ⟨Ka,2,none⟩=some (I L a0_2)∧w'.cell? ⟨Ka,3,none⟩=some (I L a0_3)∧w'.cell? ⟨Ka,4,none⟩=some (I L a0_4)∧w'.cell? ⟨Ka,5,none⟩=some (I L a0_5)) (ds:=[]) (bz 26 0) (by kernel_rfl) rfl (by kernel_rfl) (be6_ Ja.out) (fun hHeld=>?_);refine with_tabW impl_PrefixOk.tab1 impl_PrefixOk.bits1 (fun HT_ HW_=>?_);generalize w19.drew=w20 at Ja HB hHeld ⊢;refine tb_ 0 rfl rfl hHeld Z8 ?_;refine oa_ 1 4 26 3 HT_ (fun K hK=>?_);refine goes_ Try.func48 (by kernel_rfl) rfl #[.agg #[I L a0_0,I L a0_1,I L a0_2,I L a0_3,I L a0_4,I L a0_5]] (by rfl) rfl rfl Z6 ?_;with_reducible refine (impl_isAny.calls a0_0 a0_1 a0_2 a0_3 a0_4 a0_5 false _ A2.out).mono ?_
    rintro e w21 ⟨rfl, hb⟩; refine ⟨_, rfl, ?_⟩
    have n_ := an_ (blk_below (pk_ Ja.out) hb) <| D (below_step (pB_ HB.out) hb)
    clear Ja HB;obtain ⟨Ja,HB⟩:=n_;refine hK.out _ _ (be6_ Ja.out) (fun hHeld=>?_);clear hK K;refine nx_ (N:=some 4) ?_;refine pb_ 2 ?_;refine pb_ 3 ?_;refine tb_ 4 rfl rfl hHeld Z8 ?_;refine oa_ 5 8 26 63 HT_ (fun K hK=>?_);refine goes_ Try.func49 (by kernel_rfl) rfl #[.agg #[I L a0_0,I L a0_1,I L a0_2,I L a0_3,I L a0_4]] (by rfl) rfl rfl Z6 ?_;with_reducible refine (impl_AddrOk.calls a0_0 a0_1 a0_2 a0_3 a0_4 true _ A7.out).mono ?_
    rintro e w22 ⟨rfl, hb⟩; refine ⟨_, rfl, ?_⟩
    have n_ := an_ (blk_below (pk_ Ja.out) hb) <| D (below_step (pB_ HB.out) hb)
    clear Ja HB;obtain ⟨Ja,HB⟩:=n_;refine hK.out _ _ (be6_ Ja.out) (fun hHeld=>?_);clear hK K;refine nx_ (N:=some 8) ?_;refine pb_ 6 ?_;refine pb_ 7 ?_;refine pb_ 9 ?_;refine tb_ 8 rfl rfl hHeld Z8 ?_;refine tb_ 10 rfl rfl hHeld Z8 ?_;refine oa_ 11 14 26 4095 HT_ (fun K hK=>?_);refine goes_ Try.func50 (by kernel_rfl) rfl #[.agg #[I L a0_0,I L a0_1,I L a0_2,I L a0_3,I L a0_4]] (by rfl) rfl rfl Z6 ?_;with_reducible refine (impl_bitsOf.calls a0_0 a0_1 a0_2 a0_3 a0_4 Ma _ A9.out).mono ?_
    rintro e w23 ⟨rfl, hb⟩; refine ⟨_, rfl, ?_⟩
    have n_ := an_ (blk_below (pk_ Ja.out) hb) <| D (below_step (pB_ HB.out) hb)
    clear Ja HB;obtain ⟨Ja,HB⟩:=n_;refine hK.out _ _ (be6_ Ja.out) (fun hHeld=>?_);clear hK K;refine nx_ (N:=some 14) ?_;refine oa_ 12 15 26 8191 HT_ (fun K hK=>?_);refine goes_ Try.func18 (by kernel_rfl) rfl #[I L a0_5,I L 0,I L Ma] (by rfl) rfl rfl Z6 ?_;with_reducible refine (impl_within.calls a0_5 0 Ma false _ A10.out).mono ?_
    rintro e w' ⟨rfl,⟨nd,rfl⟩⟩;refine ⟨_,rfl,?_⟩;refine hK.out _ _ (be6_ Ja.out) (fun hHeld=>?_);clear hK K;refine nx_ (N:=some 15) ?_;refine pb_ 13 ?_;refine pb_ 14 ?_;refine ob_ 15 ?_;refine ob_ 16 ?_;refine ob_ 17 ?_;refine ob_ 18 ?_;refine ob_ 19 ?_;refine ob_ 20 ?_;refine ob_ 21 ?_;refine ob_ 22 ?_;refine pb_ 23 ?_;refine pb_ 24 ?_;refine pb_ 25 ?_;refine done_ (done_of HT_.out (by kernel_rfl)) ?_
    try go_wp2
    go_ret; exact ⟨er_, pB_ HB.out⟩
  ·replace c8 := Bool.eq_false_iff.mpr c8
   subst c8; rw [if_neg (show ¬ (false = true) by decide)] at H; obtain rfl := Option.some.inj H; go_enter Try.func34, Try.ntmps34
   try go_wp2_with (first|((with_reducible refine gate_dst (N:=1) rfl ?_);refine bx_ (N:=1) (cs:=#[I L a0_0,I L a0_1,I L a0_2,I L a0_3,I L a0_4,I L a0_5]) (t:=37) ?_;intro Ka hg w24 hbox hb;have n_:=an_ (below_step (pB_ HB.out) hb)<|an_ (hbox)<|an_ (bg_ hg (pB_ HB.out):w.heap.size≤Ka)<|D (bg_ hg (pB_ HB.out):w.heap.size≤Ka);clear HB;obtain ⟨HB,Ja,Jb,Kb⟩:=n_;clear hb hbox hg))
   have n_ := an_ (blk_drew Ja.out) <| D (below_drew1 HB.out)
   clear Ja HB;obtain ⟨Ja,HB⟩:=n_;refine start_ (n:=26) (S:=fun w'=>w'.cell? ⟨Ka,0,none⟩=some (I L a0_0)∧w'.cell? ⟨Ka,1,none⟩=some (I L a0_1)∧w'.cell? ⟨Ka,2,none⟩=some (I L a0_2)∧w'.cell? ⟨Ka,3,none⟩=some (I L a0_3)∧w'.cell? ⟨Ka,4,none⟩=some (I L a0_4)∧w'.cell? ⟨Ka,5,none⟩=some (I L a0_5)) (ds:=[]) (bz 26 0) (by kernel_rfl) rfl (by kernel_rfl) (be6_ Ja.out) (fun hHeld=>?_);refine with_tabW impl_PrefixOk.tab1 impl_PrefixOk.bits1 (fun HT_ HW_=>?_);generalize w24.drew=w25 at Ja HB hHeld ⊢;refine tb_ 0 rfl rfl hHeld Z8 ?_;refine oa_ 1 4 26 3 HT_ (fun K hK=>?_);refine goes_ Try.func48 (by kernel_rfl) rfl #[.agg #[I L a0_0,I L a0_1,I L a0_2,I L a0_3,I L a0_4,I L a0_5]] (by rfl) rfl rfl Z6 ?_;with_reducible refine (impl_isAny.calls a0_0 a0_1 a0_2 a0_3 a0_4 a0_5 false _ A2.out).mono ?_
   rintro e w26 ⟨rfl, hb⟩; refine ⟨_, rfl, ?_⟩
   have n_ := an_ (blk_below (pk_ Ja.out) hb) <| D (below_step (pB_ HB.out) hb)
   clear Ja HB;obtain ⟨Ja,HB⟩:=n_;refine hK.out _ _ (be6_ Ja.out) (fun hHeld=>?_);clear hK K;refine nx_ (N:=some 4) ?_;refine pb_ 2 ?_;refine pb_ 3 ?_;refine tb_ 4 rfl rfl hHeld Z8 ?_;refine oa_ 5 8 26 63 HT_ (fun K hK=>?_);refine goes_ Try.func49 (by kernel_rfl) rfl #[.agg #[I L a0_0,I L a0_1,I L a0_2,I L a0_3,I L a0_4]] (by rfl) rfl rfl Z6 ?_;with_reducible refine (impl_AddrOk.calls a0_0 a0_1 a0_2 a0_3 a0_4 false _ A7.out).mono ?_
   rintro e w27 ⟨rfl, hb⟩; refine ⟨_, rfl, ?_⟩
   have n_ := an_ (blk_below (pk_ Ja.out) hb) <| D (below_step (pB_ HB.out) hb)
   clear Ja HB;obtain ⟨Ja,HB⟩:=n_;refine hK.out _ _ (be6_ Ja.out) (fun hHeld=>?_);clear hK K;refine nx_ (N:=some 8) ?_;refine pb_ 6 ?_;refine ob_ 7 ?_;refine ob_ 8 ?_;refine ob_ 9 ?_;refine ob_ 10 ?_;refine ob_ 11 ?_;refine ob_ 12 ?_;refine pb_ 13 ?_;refine pb_ 14 ?_;refine ob_ 15 ?_;refine ob_ 16 ?_;refine ob_ 17 ?_;refine ob_ 18 ?_;refine ob_ 19 ?_;refine ob_ 20 ?_;refine ob_ 21 ?_;refine ob_ 22 ?_;refine pb_ 23 ?_;refine pb_ 24 ?_;refine pb_ 25 ?_;refine done_ (done_of HT_.out (by kernel_rfl)) ?_
   try go_wp2
   go_ret; exact ⟨er_, pB_ HB.out⟩

/-! ### impl_isRange: function 35 -/
def impl_isRange.f (a0 a1 : Int) : Option (Bool) := if a0 ≥ 0 then (if a0 ≤ a1 then (some (decide (a1 ≤ 65535))) else (some false)) else (some false)
set_option maxHeartbeats 8000000 in
set_option maxRecDepth 100000 in
theorem impl_isRange.calls (a0 a1 : Int) (r : Bool) (w : World) (h : impl_isRange.f a0 a1 = some r) :
  Calls Try.prog 35 #[I L a0, I L a1] w fun e w' => e = .returned (.bool r) ∧ Drawn0 w w' := by
 have H : (if a0 ≥ 0 then (if a0 ≤ a1 then (some (decide (a1 ≤ 65535))) else (some false)) else (some false)) = some r := h
 clear h
 by_cases c3 : a0 ≥ 0
 ·rw [if_pos c3] at H
  have c3b0 : decide (0 ≤ a0) = true := decide_eq_true c3; clear c3
  by_cases c4 : a0 ≤ a1
  ·rw [if_pos c4] at H
   have c4b0 : decide (a0 ≤ a1) = true := decide_eq_true c4; clear c4; obtain rfl := Option.some.inj H; go_enter Try.func35, Try.ntmps35
   go_wp2
   go_ret; exact ⟨by first | rfl | (simp; done) | (simp [*]; done), by repeat (first | exact Drawn0.refl _ | apply Drawn0.step)⟩
  ·rw [if_neg c4] at H
   have c4b0 : decide (a0 ≤ a1) = false := decide_eq_false c4; clear c4; obtain rfl := Option.some.inj H; go_enter Try.func35, Try.ntmps35
   go_wp2
   go_ret; exact ⟨by first | rfl | (simp; done) | (simp [*]; done), by repeat (first | exact Drawn0.refl _ | apply Drawn0.step)⟩
 ·rw [if_neg c3] at H
  have c3b0 : decide (0 ≤ a0) = false := decide_eq_false c3; clear c3; obtain rfl := Option.some.inj H; go_enter Try.func35, Try.ntmps35
  go_wp2
  go_ret; exact ⟨by first | rfl | (simp; done) | (simp [*]; done), by repeat (first | exact Drawn0.refl _ | apply Drawn0.step)⟩

end Go.Proofs.Ytjhgkonacdimfab.PFnExactCmdOk
