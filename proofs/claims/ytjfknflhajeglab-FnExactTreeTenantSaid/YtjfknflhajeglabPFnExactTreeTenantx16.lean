-- by a program of this session's, over the kit's words
import Derived.Test.YtjfknflhajeglabPZFnExactTreeTenant
import Derived.Test.YtjfknflhajeglabPFnExactTreeTenantx0
import Derived.Test.YtjfknflhajeglabPFnExactTreeTenantx10
import Derived.Test.YtjfknflhajeglabPFnExactTreeTenantx14
import Derived.Test.YtjfknflhajeglabPFnExactTreeTenantx15
namespace Go.Proofs.Ytjfknflhajeglab.PFnExactTreeTenant
open Go.RowKit Go.Proofs.YtjfknflhajeglabW.PrintWords Go.Proofs.YtjfknflhajeglabW.PrintLast Go.Proofs.YtjfknflhajeglabW.PrintMore Go.Proofs.YtjfknflhajeglabV Go.Proofs.Ytjfknflhajeglab.ZFnExactTreeTenant
open Go.Value renaming int → I, slice → Y
open Go.IntKind renaming i64 → L
open Aside0 renaming mk → D
open Option renaming bind_eq_some_iff → bs_
attribute [local go_sem] max2_int min2_int max_two min_two max_three min_three max_four min_four   -- for this text's walks alone
set_option linter.unusedVariables false
set_option linter.unusedSimpArgs false

/-! ### impl_copyTree: function 22 -/
def impl_copyTree.l0 : Nat → List (S54) → Int → Int → Int → Int → Int → Int → List (S51) → List (S54) → Option (Int × Int × Int × Int × (List (S51)) × (List (S54)))
 | 0, _, _, _, _, _, _, _, _, _ => none
 | k + 1,x11,x12,x13,x451000,x451001,x451002,x451003,x451004,x451005=>if x13 < x12 then (if 0≤x13 then (if x13 < (x11.length:Int) then ((impl_copyFair.f ((rd_T54 x11 x13).f1.f0) ((rd_T54 x11 x13).f1.f1.f0) ((rd_T54 x11 x13).f1.f1.f1) ((rd_T54 x11 x13).f1.f1.f2) ((rd_T54 x11 x13).f1.f2)).bind fun bt453=>(if x451005.length < 2199023255552 then (impl_copyTree.l0 k x11 x12 (wrap64 (x13 + 1)) x451000 x451001 x451002 x451003 x451004 (x451005 ++ [(⟨(rd_T54 x11 x13).f0,(⟨bt453.1,(⟨bt453.2.1,bt453.2.2.1,bt453.2.2.2.1⟩:S31),bt453.2.2.2.2⟩:S34)⟩:S54)])) else (none))) else (none)) else (none)) else (some (x451000,x451001,x451002,x451003,x451004,x451005))
def impl_copyTree.f (k : Nat) (a0_0 a0_1 a0_2 a0_3 : Int) (l0_4 : List (S51)) (l0_5 : List (S54)) : Option (Int × Int × Int × Int × (List (S51)) × (List (S54))) := (impl_copyFair.f a0_0 a0_1 a0_2 a0_3 l0_4).bind fun bt443 => (impl_copyTree.l0 k l0_5 (l0_5.length : Int) 0 bt443.1 bt443.2.1 bt443.2.2.1 bt443.2.2.2.1 bt443.2.2.2.2 ([] : List (S54)))
def impl_copyTree.T5 : Bool × List (List Nat × List Nat) := (true, [([], []), ([0], [0]), ([], []), ([2], [2]), ([], []), ([4], [4]), ([5], [5]), ([3, 6], [3, 6]), ([7], [7]), ([1, 8, 6], [1, 8]), ([0, 1, 2, 3, 4, 5, 6, 7, 8, 9], []), ([10, 9, 9, 0, 1, 2, 3, 4, 5, 6, 7, 8, 9], [9, 10])])
def impl_copyTree.B5 : List Nat := [0, 1, 0, 4, 0, 16, 48, 124, 252, 511, 1023, 2047]
theorem impl_copyTree.tab5 : rtab .any (opsOf Try.f22 5) = impl_copyTree.T5 := by kernel_rfl
theorem impl_copyTree.bits5 : waitsOk impl_copyTree.T5.2 impl_copyTree.B5 = true := by kernel_rfl
set_option maxHeartbeats 8000000 in
set_option maxRecDepth 100000 in
theorem impl_copyTree.calls (k : Nat) (a0_0 a0_1 a0_2 a0_3 : Int) (A0_4 : Option Addr) (c0_4 : Nat) (l0_4 : List (S51)) (A0_5 : Option Addr) (c0_5 : Nat) (l0_5 : List (S54)) (r1 r2 r3 r4 : Int) (r5 : List (S51)) (r6 : List (S54)) (w : World) (hr0_4 : Kd.C k51 w A0_4 l0_4.length l0_4) (hc0_4 : l0_4.length ≤ c0_4) (hr0_5 : Kd.C k54 w A0_5 l0_5.length l0_5) (hc0_5 : l0_5.length ≤ c0_5) (h : impl_copyTree.f k a0_0 a0_1 a0_2 a0_3 l0_4 l0_5 = some (r1, r2, r3, r4, r5, r6)) :
  Calls Try.prog 22 #[.agg #[I L a0_0,I L a0_1,I L a0_2,I L a0_3,Y A0_4 l0_4.length c0_4,Y A0_5 l0_5.length c0_5]] w fun e w'=>∃ v4_ v5_:Value,e=.returned (.agg #[I L r1,I L r2,I L r3,I L r4,v4_,v5_])∧Kd.R k51 51 w' w.heap.size (fun _=>True) v4_ r5∧Kd.S k54 54 w' w.heap.size (fun k_=>some k_≠(v4_:Value).ownBlock) v5_ r6∧Below w.heap.size w w':=by
 have hu37 := Try.underlying37
 have hu34 := Try.underlying34
 have hu54 := Try.underlying54
 have HR0_4 := D hr0_4
 have HC0_4 := D hc0_4
 clear hr0_4 hc0_4
 have HR0_5 := D hr0_5
 have HC0_5 := D hc0_5
 clear hr0_5 hc0_5
 have HB := D (Below.refl w.heap.size w)
 have H:((impl_copyFair.f a0_0 a0_1 a0_2 a0_3 l0_4).bind fun bt443=>(impl_copyTree.l0 k l0_5 (l0_5.length:Int) 0 bt443.1 bt443.2.1 bt443.2.2.1 bt443.2.2.2.1 bt443.2.2.2.2 ([]:List (S54))))=some (r1,r2,r3,r4,r5,r6):=h
 clear h
 obtain ⟨⟨Ub, Jc, Kc, Xc, Mb⟩, A20, H⟩ := bs_.mp H
 (try dsimp only at H)
 have A2 := D A20
 clear A20
 have H' := D H
 clear H
 go_enter Try.func22, Try.ntmps22
 go_wp2_with (first|((with_reducible refine gate_dst (N:=1) rfl ?_);refine bx_ (N:=1) (cs:=#[I L a0_0,I L a0_1,I L a0_2,I L a0_3,Y A0_4 l0_4.length c0_4,Y A0_5 l0_5.length c0_5]) (t:=37) ?_;intro Ob hg w3 hbox hb;have n_:=an_ (below_step (pB_ HB.out) hb)<|an_ (hbox)<|an_ (bg_ hg (pB_ HB.out):w.heap.size≤Ob)<|D (bg_ hg (pB_ HB.out):w.heap.size≤Ob);clear HB;obtain ⟨HB,Oa,Xo,Jp⟩:=n_;clear hb hbox hg)|((with_reducible refine gate_dst (N:=2) rfl ?_);refine bx_ (N:=2) (cs:=#[I L 0,I L 0,I L 0,I L 0,Y none 0 0,Y none 0 0]) (t:=37) ?_;intro Mc hg w4 hbox hb;have n_:=an_ (blk_below (pk_ Oa.out) hb)<|an_ (below_step (pB_ HB.out) hb)<|an_ (hbox)<|an_ (bg_ hg (pB_ HB.out):w.heap.size≤Mc)<|an_ (bg_ hg (pB_ HB.out):w.heap.size≤Mc)<|an_ (nl_ hg (pk_ Oa.out):Ob≠Mc)<|D (by rw [hg];exact Nat.ne_of_gt (blk_lt (pk_ Oa.out)):Mc≠Ob);clear Oa HB;obtain ⟨Oa,HB,Xa,Kp,Mp,Mg,Og⟩:=n_;clear hb hbox hg;(try have:=Mg.out);(try have:=Og.out);have Mh:=cells6 Oa.out)|((with_reducible refine gate_callee (f:=47) rfl ?_);refine goesL_ (some 8) rfl rfl Try.func47 (by kernel_rfl) rfl #[.agg #[I L a0_0,I L a0_1,I L a0_2,I L a0_3,Y A0_4 l0_4.length c0_4]] rfl Z21 ?_;(with_reducible refine (impl_copyFair.calls a0_0 a0_1 a0_2 a0_3 _ _ l0_4 Ub Jc Kc Xc Mb _ ?side1 ?side2 A2.out).mono ?_);(case side1=>exact pC_ (Kd.C_below HR0_4.out HB.out));(case side2=>exact HC0_4.out);rintro e w7 ⟨Op,rfl,ho0,hb⟩;refine ⟨_,rfl,?_⟩;have n_:=an_ (Kd.R_lower ho0 (below_size (pB_ HB.out)))<|an_ (blk_below (pk_ Oa.out) hb)<|an_ (blk_below (pk_ Xa.out) hb)<|D (below_step (pB_ HB.out) hb);clear Oa Xa HB;obtain ⟨Me,Oa,Xa,HB⟩:=n_;(try clear hb);(try clear ho0);obtain ⟨Oc,Uc,eo8⟩:=Kd.R_slice Me.out;subst eo8)|((with_reducible refine gate_dst (N:=3) rfl ?_);refine bx_ (N:=3) (cs:=#[I L 0,I L 0,I L 0,I L 0,Y none 0 0,Y none 0 0]) (t:=37) ?_;intro Jb hg w9 hbox hb;have n_:=an_ (Kd.R_below (pR_ Me.out) hb)<|an_ (blk_below (pk_ Oa.out) hb)<|an_ (blk_below (pk_ Xa.out) hb)<|an_ (below_step (pB_ HB.out) hb)<|an_ (hbox)<|an_ (bg_ hg (pB_ HB.out):w.heap.size≤Jb)<|an_ (bg_ hg (pB_ HB.out):w.heap.size≤Jb)<|an_ (nl_ hg (pk_ Oa.out):Ob≠Jb)<|an_ (ng_ hg (pk_ Oa.out):Jb≠Ob)<|an_ (nl_ hg (pk_ Xa.out):Mc≠Jb)<|D (by rw [hg];exact Nat.ne_of_gt (blk_lt (pk_ Xa.out)):Jb≠Mc);clear Me Oa Xa HB;obtain ⟨Me,Oa,Xa,HB,Ma,Up,Xp,Jd,Mf,Md,Of⟩:=n_;clear hb hbox hg;(try have:=Mf.out);(try have:=Jd.out);(try have:=Of.out);(try have:=Md.out);have Mj:=cells6 Ma.out;have Mm:=cells6 Oa.out))
 go_loopg [13] k (fun kq v13 w'=>∃ (Ja:Int) (Od:List (S54)) (u451005:Value),v13=I L Ja∧Aside0 (impl_copyTree.l0 kq l0_5 (l0_5.length:Int) Ja Ub Jc Kc Xc Mb Od=some (r1,r2,r3,r4,r5,r6))∧Aside0 (kq≤k)∧Aside0 (Kd.R k51 51 w' w.heap.size (fun _=>True) (Y Oc Mb.length Uc) Mb)∧Aside0 (Kd.S k54 54 w' w.heap.size (fun k_=>some k_≠((Y Oc Mb.length Uc):Value).ownBlock) u451005 Od)∧Aside0 (w'.heap[Ob]?=some (.cells #[I L a0_0,I L a0_1,I L a0_2,I L a0_3,(Y A0_4 l0_4.length c0_4),(Y A0_5 l0_5.length c0_5)] 37 (0,0)))∧Aside0 (w'.heap[Mc]?=some (.cells #[I L 0,I L 0,I L 0,I L 0,(Y none 0 0),(Y none 0 0)] 37 (0,0)))∧Aside0 (w'.heap[Jb]?=some (.cells #[I L Ub,I L Jc,I L Kc,I L Xc,(Y Oc Mb.length Uc),u451005] 37 (0,0)))∧Aside0 (Below w.heap.size w w'))
 case atStart=>exact ⟨(0),(([]:List (S54))),(Y none 0 0),Z53,H',⟨Nat.le_refl _⟩,⟨rM_ (Kd.R_types Me.out Ma.out (by decide)) (fun _ hk=>trivial)⟩,⟨by first|exact Kd.S_nil _ _ _ _ _|exact Kd.N_nil _ _ _ _ _|exact Kd.V_nil _ _ _ _ _|exact Kd.Q_nil _ _ _ _ _|exact Kd.R_nil _ _ _ _ _⟩,⟨pP_ Oa.out⟩,⟨pP_ Xa.out⟩,⟨pP_ Ma.out⟩,⟨pB_ HB.out⟩⟩
 case round =>
  clear H'
  (try clear c1);(try clear c2);(try clear p2);(try clear c4);(try clear c5);(try clear c10);(try clear c11);(try clear Mj);(try clear Mm);(try clear Mh)
  obtain ⟨Ja, Od, u451005, rfl, HA, HK1, Xb, Kb, Oa, Xa, Ma, HB⟩ := hrel
  cases gk with
  | zero => exact absurd HA.out (by simp [impl_copyTree.l0])
  | succ k1 =>
   have H := HA.out; clear HA; simp only [impl_copyTree.l0] at H
   by_cases c14 : Ja < (l0_5.length : Int)
   ·rw [if_pos c14] at H
    have c14b0 : decide (Ja < (l0_5.length : Int)) = true := decide_eq_true c14; clear c14
    by_cases c15 : 0 ≤ Ja
    ·rw [if_pos c15] at H
     have c15b0 : decide (0 ≤ Ja) = true := decide_eq_true c15; clear c15
     by_cases c16 : Ja < (l0_5.length : Int)
     ·rw [if_pos c16] at H
      have c16b0:decide (Ja < (l0_5.length:Int))=true:=decide_eq_true c16;clear c16;obtain ⟨⟨Oe,Ue,Xe,Jf,Ke⟩,A170,H⟩:=bs_.mp H;(try dsimp only at H);have A17:=D A170;clear A170
      by_cases c18 : Od.length < 2199023255552
      ·rw [if_pos c18] at H
       have LMc18 := D c18; clear c18; obtain ⟨y460, hy460⟩ : ∃ y_ : List (S54), y_ = (Od ++ [(⟨(rd_T54 l0_5 Ja).f0, (⟨Oe, (⟨Ue, Xe, Jf⟩ : S31), Ke⟩ : S34)⟩ : S54)]) := ⟨_, rfl⟩
       replace H:(impl_copyTree.l0 k1 l0_5 (l0_5.length:Int) (wrap64 (Ja + 1)) Ub Jc Kc Xc Mb y460)=some (r1,r2,r3,r4,r5,r6):=by first|(rw [hy460];with_reducible exact H)|(have H2_:=(Option.bind_some _ _).symm.trans H;rw [hy460];with_reducible exact H2_)|(have H2_:=(Option.bind_some _ _).symm.trans H;with_reducible exact H2_)|with_reducible exact H|(rw [hy460];exact H)|exact H
       have Ny460:=D hy460;clear hy460;have H':=D H;clear H;have p451:0≤(Ja:Int):=od_ Z52;have q451:Ja < (l0_5.length:Int):=od_ Z52;obtain ⟨ad451,A451_5,c451_5,e451,hx451_0,hx451_1,hx451_2,hx451_3,hx451_4,hx451_5,hl451_5,hi451_5⟩:=at_T54 HR0_5.out Ja p451 q451;cases e451;replace hx451_0:=rc_ HB.out hx451_0;replace hx451_1:=rc_ HB.out hx451_1;replace hx451_2:=rc_ HB.out hx451_2;replace hx451_3:=rc_ HB.out hx451_3;replace hx451_4:=rc_ HB.out hx451_4;replace hx451_5:=rc_ HB.out hx451_5;have HR451_5:=D hi451_5;have HC451_5:=D hl451_5;clear hi451_5 hl451_5;replace p451:=eq_true p451;replace q451:=eq_true q451
       try go_wp2_with (first|((with_reducible refine gate_dst (N:=5) rfl ?_);refine bx_ (N:=5) (cs:=#[I L 0,I L 0,I L 0,I L 0,I L 0,Y none 0 0]) (t:=54) ?_;intro Ka hg w19 hbox hb;have n_:=an_ (Kd.R_below (pR_ Xb.out) hb)<|an_ (Kd.S_below (Kd.S_elderB (pS_ Kb.out) Ka (Nat.le_of_eq hg.symm)) hb)<|an_ (blk_below (pk_ Oa.out) hb)<|an_ (blk_below (pk_ Xa.out) hb)<|an_ (blk_below (pk_ Ma.out) hb)<|an_ (below_step (pB_ HB.out) hb)<|an_ (hbox)<|an_ (bg_ hg (pB_ HB.out):w.heap.size≤Ka)<|an_ (bg_ hg (pB_ HB.out):w.heap.size≤Ka)<|an_ (nl_ hg (pk_ Oa.out):Ob≠Ka)<|an_ (ng_ hg (pk_ Oa.out):Ka≠Ob)<|an_ (nl_ hg (pk_ Xa.out):Mc≠Ka)<|an_ (ng_ hg (pk_ Xa.out):Ka≠Mc)<|an_ (nl_ hg (pk_ Ma.out):Jb≠Ka)<|D (by rw [hg];exact Nat.ne_of_gt (blk_lt (pk_ Ma.out)):Ka≠Jb);clear Xb Kb Oa Xa Ma HB;obtain ⟨Xb,Kb,Oa,Xa,Ma,HB,Ua,Jq,Kq,Xd,Mo,Je,Oo,Ud,Ug⟩:=n_;clear hb hbox hg;(try have:=Mo.out);(try have:=Xd.out);(try have:=Oo.out);(try have:=Je.out);(try have:=Ug.out);(try have:=Ud.out);have Mq:=cells6 Ua.out))
       have n0_:Aside0 (Kd.R k51 51 ((((((w19.setCell ⟨Ka,0,none⟩ (I L ((rd_T54 l0_5 Ja).f0))).setCell ⟨Ka,1,none⟩ (I L ((rd_T54 l0_5 Ja).f1.f0))).setCell ⟨Ka,2,none⟩ (I L ((rd_T54 l0_5 Ja).f1.f1.f0))).setCell ⟨Ka,3,none⟩ (I L ((rd_T54 l0_5 Ja).f1.f1.f1))).setCell ⟨Ka,4,none⟩ (I L ((rd_T54 l0_5 Ja).f1.f1.f2))).setCell ⟨Ka,5,none⟩ (Y A451_5 ((rd_T54 l0_5 Ja).f1.f2).length c451_5)) w.heap.size (fun _=>True) (Y Oc Mb.length Uc) Mb):=⟨rM_ (Kd.R_types Xb.out Ua.out (by decide)) (fun _ hk=>trivial)⟩;have n1_:Aside0 (Kd.S k54 54 ((((((w19.setCell ⟨Ka,0,none⟩ (I L ((rd_T54 l0_5 Ja).f0))).setCell ⟨Ka,1,none⟩ (I L ((rd_T54 l0_5 Ja).f1.f0))).setCell ⟨Ka,2,none⟩ (I L ((rd_T54 l0_5 Ja).f1.f1.f0))).setCell ⟨Ka,3,none⟩ (I L ((rd_T54 l0_5 Ja).f1.f1.f1))).setCell ⟨Ka,4,none⟩ (I L ((rd_T54 l0_5 Ja).f1.f1.f2))).setCell ⟨Ka,5,none⟩ (Y A451_5 ((rd_T54 l0_5 Ja).f1.f2).length c451_5)) w.heap.size (fun k_=>some k_≠(Y Oc Mb.length Uc:Value).ownBlock∧k_≠Ka) u451005 Od):=⟨sM_ (Kd.S_mono Kb.out (fun k_ hk=>(⟨hk,hk.2⟩:_∧k_≠Ka))) (fun _ hk=>⟨hk.1.1,hk.1.2⟩)⟩;have n2_:Aside0 (((((((w19.setCell ⟨Ka,0,none⟩ (I L ((rd_T54 l0_5 Ja).f0))).setCell ⟨Ka,1,none⟩ (I L ((rd_T54 l0_5 Ja).f1.f0))).setCell ⟨Ka,2,none⟩ (I L ((rd_T54 l0_5 Ja).f1.f1.f0))).setCell ⟨Ka,3,none⟩ (I L ((rd_T54 l0_5 Ja).f1.f1.f1))).setCell ⟨Ka,4,none⟩ (I L ((rd_T54 l0_5 Ja).f1.f1.f2))).setCell ⟨Ka,5,none⟩ (Y A451_5 ((rd_T54 l0_5 Ja).f1.f2).length c451_5)).heap[Ob]?=some (.cells #[I L a0_0,I L a0_1,I L a0_2,I L a0_3,Y A0_4 l0_4.length c0_4,Y (some ad451) l0_5.length c0_5] 37 (0,0))):=⟨pP_ Oa.out⟩;have n3_:Aside0 (((((((w19.setCell ⟨Ka,0,none⟩ (I L ((rd_T54 l0_5 Ja).f0))).setCell ⟨Ka,1,none⟩ (I L ((rd_T54 l0_5 Ja).f1.f0))).setCell ⟨Ka,2,none⟩ (I L ((rd_T54 l0_5 Ja).f1.f1.f0))).setCell ⟨Ka,3,none⟩ (I L ((rd_T54 l0_5 Ja).f1.f1.f1))).setCell ⟨Ka,4,none⟩ (I L ((rd_T54 l0_5 Ja).f1.f1.f2))).setCell ⟨Ka,5,none⟩ (Y A451_5 ((rd_T54 l0_5 Ja).f1.f2).length c451_5)).heap[Mc]?=some (.cells #[I L 0,I L 0,I L 0,I L 0,Y none 0 0,Y none 0 0] 37 (0,0))):=⟨pP_ Xa.out⟩;have n4_:Aside0 (((((((w19.setCell ⟨Ka,0,none⟩ (I L ((rd_T54 l0_5 Ja).f0))).setCell ⟨Ka,1,none⟩ (I L ((rd_T54 l0_5 Ja).f1.f0))).setCell ⟨Ka,2,none⟩ (I L ((rd_T54 l0_5 Ja).f1.f1.f0))).setCell ⟨Ka,3,none⟩ (I L ((rd_T54 l0_5 Ja).f1.f1.f1))).setCell ⟨Ka,4,none⟩ (I L ((rd_T54 l0_5 Ja).f1.f1.f2))).setCell ⟨Ka,5,none⟩ (Y A451_5 ((rd_T54 l0_5 Ja).f1.f2).length c451_5)).heap[Jb]?=some (.cells #[I L Ub,I L Jc,I L Kc,I L Xc,Y Oc Mb.length Uc,u451005] 37 (0,0))):=⟨pP_ Ma.out⟩
       have n5_:Aside0 (((((((w19.setCell ⟨Ka,0,none⟩ (I L ((rd_T54 l0_5 Ja).f0))).setCell ⟨Ka,1,none⟩ (I L ((rd_T54 l0_5 Ja).f1.f0))).setCell ⟨Ka,2,none⟩ (I L ((rd_T54 l0_5 Ja).f1.f1.f0))).setCell ⟨Ka,3,none⟩ (I L ((rd_T54 l0_5 Ja).f1.f1.f1))).setCell ⟨Ka,4,none⟩ (I L ((rd_T54 l0_5 Ja).f1.f1.f2))).setCell ⟨Ka,5,none⟩ (Y A451_5 ((rd_T54 l0_5 Ja).f1.f2).length c451_5)).heap[Ka]?=some (.cells #[I L ((rd_T54 l0_5 Ja).f0),I L ((rd_T54 l0_5 Ja).f1.f0),I L ((rd_T54 l0_5 Ja).f1.f1.f0),I L ((rd_T54 l0_5 Ja).f1.f1.f1),I L ((rd_T54 l0_5 Ja).f1.f1.f2),Y A451_5 ((rd_T54 l0_5 Ja).f1.f2).length c451_5] 54 (0,0))):=⟨pP_ Ua.out⟩;have n6_:Aside0 (Below w.heap.size w ((((((w19.setCell ⟨Ka,0,none⟩ (I L ((rd_T54 l0_5 Ja).f0))).setCell ⟨Ka,1,none⟩ (I L ((rd_T54 l0_5 Ja).f1.f0))).setCell ⟨Ka,2,none⟩ (I L ((rd_T54 l0_5 Ja).f1.f1.f0))).setCell ⟨Ka,3,none⟩ (I L ((rd_T54 l0_5 Ja).f1.f1.f1))).setCell ⟨Ka,4,none⟩ (I L ((rd_T54 l0_5 Ja).f1.f1.f2))).setCell ⟨Ka,5,none⟩ (Y A451_5 ((rd_T54 l0_5 Ja).f1.f2).length c451_5))):=⟨pB_ HB.out⟩;(try clear Xb);(try clear Kb);(try clear Oa);(try clear Xa);(try clear Ma);(try clear Ua);(try clear HB);generalize ((((((w19.setCell ⟨Ka,0,none⟩ (I L ((rd_T54 l0_5 Ja).f0))).setCell ⟨Ka,1,none⟩ (I L ((rd_T54 l0_5 Ja).f1.f0))).setCell ⟨Ka,2,none⟩ (I L ((rd_T54 l0_5 Ja).f1.f1.f0))).setCell ⟨Ka,3,none⟩ (I L ((rd_T54 l0_5 Ja).f1.f1.f1))).setCell ⟨Ka,4,none⟩ (I L ((rd_T54 l0_5 Ja).f1.f1.f2))).setCell ⟨Ka,5,none⟩ (Y A451_5 ((rd_T54 l0_5 Ja).f1.f2).length c451_5))=w24 at n0_ n1_ n2_ n3_ n4_ n5_ n6_ ⊢;have Xb:=n0_;have Kb:=n1_;have Oa:=n2_;have Xa:=n3_;have Ma:=n4_;have Ua:=n5_;have HB:=n6_;clear n0_ n1_ n2_ n3_ n4_ n5_ n6_
       have n_:=an_ (Kd.R_drew Xb.out)<|an_ (Kd.S_drew Kb.out)<|an_ (blk_drew Oa.out)<|an_ (blk_drew Xa.out)<|an_ (blk_drew Ma.out)<|an_ (blk_drew Ua.out)<|D (below_drew1 HB.out)
       clear Xb Kb Oa Xa Ma Ua HB;obtain ⟨Xb,Kb,Oa,Xa,Ma,Ua,HB⟩:=n_;refine start_ (n:=12) (S:=fun w'=>w'.cell? ⟨Jb,0,none⟩=some (I L Ub)∧w'.cell? ⟨Jb,1,none⟩=some (I L Jc)∧w'.cell? ⟨Jb,2,none⟩=some (I L Kc)∧w'.cell? ⟨Jb,3,none⟩=some (I L Xc)∧w'.cell? ⟨Jb,4,none⟩=some (Y Oc Mb.length Uc)∧w'.cell? ⟨Jb,5,none⟩=some (u451005)∧w'.cell? ⟨Ka,0,none⟩=some (I L ((rd_T54 l0_5 Ja).f0))∧w'.cell? ⟨Ka,1,none⟩=some (I L ((rd_T54 l0_5 Ja).f1.f0))∧w'.cell? ⟨Ka,2,none⟩=some (I L ((rd_T54 l0_5 Ja).f1.f1.f0))∧w'.cell? ⟨Ka,3,none⟩=some (I L ((rd_T54 l0_5 Ja).f1.f1.f1))∧w'.cell? ⟨Ka,4,none⟩=some (I L ((rd_T54 l0_5 Ja).f1.f1.f2))∧w'.cell? ⟨Ka,5,none⟩=some (Y A451_5 ((rd_T54 l0_5 Ja).f1.f2).length c451_5)) (ds:=[11]) (bz 12 0) (by kernel_rfl) rfl (by kernel_rfl) (bk6_ Ma.out (be6_ Ua.out)) (fun hHeld=>?_);refine with_tabW impl_copyTree.tab5 impl_copyTree.bits5 (fun HT_ HW_=>?_);generalize w24.drew=w25 at Xb Kb Oa Xa Ma Ua HB hHeld ⊢;refine pb_ 0 ?_;refine pb_ 2 ?_;refine pb_ 4 ?_;refine tb_ 1 rfl rfl hHeld Z46 ?_;refine tb_ 3 rfl rfl hHeld Z46 ?_;refine tb_ 5 rfl rfl hHeld Z46 ?_;refine oa_ 6 23 12 127 HT_ (fun K hK=>?_);refine goes_ Try.func47 (by kernel_rfl) rfl #[.agg #[I L ((rd_T54 l0_5 Ja).f1.f0),I L ((rd_T54 l0_5 Ja).f1.f1.f0),I L ((rd_T54 l0_5 Ja).f1.f1.f1),I L ((rd_T54 l0_5 Ja).f1.f1.f2),Y A451_5 ((rd_T54 l0_5 Ja).f1.f2).length c451_5]] (by rfl) rfl rfl Z21 ?_;with_reducible refine (impl_copyFair.calls ((rd_T54 l0_5 Ja).f1.f0) ((rd_T54 l0_5 Ja).f1.f1.f0) ((rd_T54 l0_5 Ja).f1.f1.f1) ((rd_T54 l0_5 Ja).f1.f1.f2) _ _ ((rd_T54 l0_5 Ja).f1.f2) Oe Ue Xe Jf Ke _ ?side1 ?side2 A17.out).mono ?_
       (case side1 => exact pC_ (Kd.C_below HR451_5.out HB.out)); (case side2 => exact HC451_5.out); rintro e w26 ⟨Ms, rfl, ho0, hb⟩; refine ⟨_, rfl, ?_⟩
       have n_:=an_ (Kd.R_elder' (pR_ Xb.out) (Kd.R_base ho0) hb)<|an_ (Kd.S_elder' (pS_ Kb.out) (Kd.R_base ho0) hb)<|an_ (Kd.R_lower (nw_ ho0 (pR_ Xb.out)) (below_size (pB_ HB.out)))<|an_ (blk_below (pk_ Oa.out) hb)<|an_ (blk_below (pk_ Xa.out) hb)<|an_ (blk_below (pk_ Ma.out) hb)<|an_ (blk_below (pk_ Ua.out) hb)<|D (below_step (pB_ HB.out) hb)
       clear Xb Kb Oa Xa Ma Ua HB;obtain ⟨Xb,Kb,Kf,Oa,Xa,Ma,Ua,HB⟩:=n_;obtain ⟨Xg,Jh,eo27⟩:=Kd.R_slice Kf.out;(first|subst eo27|obtain ⟨rfl,rfl⟩:=sl_inj eo27);refine hK.out _ _ (bk6_ Ma.out (be6_ Ua.out)) (fun hHeld=>?_);clear hK K;refine nx_ (N:=some 23) ?_;refine pb_ 7 ?_;refine oa_ 8 25 12 511 HT_ (fun K hK=>?_);refine value_ (w1:=?_) (v:=?_) (by rfl) rfl ?_ ?_;rotate_left 2
       ·go_simp
        constructor
        ·rfl
        ·rfl
       refine hK.out _ _ ⟨(blk_cell (blk_alloc Ma.out _) 0).trans rfl,(blk_cell (blk_alloc Ma.out _) 1).trans rfl,(blk_cell (blk_alloc Ma.out _) 2).trans rfl,(blk_cell (blk_alloc Ma.out _) 3).trans rfl,(blk_cell (blk_alloc Ma.out _) 4).trans rfl,(blk_cell (blk_alloc Ma.out _) 5).trans rfl,(blk_cell (blk_alloc Ua.out _) 0).trans rfl,(blk_cell (blk_alloc Ua.out _) 1).trans rfl,(blk_cell (blk_alloc Ua.out _) 2).trans rfl,(blk_cell (blk_alloc Ua.out _) 3).trans rfl,(blk_cell (blk_alloc Ua.out _) 4).trans rfl,(blk_cell (blk_alloc Ua.out _) 5).trans rfl⟩ (fun hHeld=>?_);clear hK K;refine nx_ (N:=some 25) ?_;refine oa_ 9 26 12 1023 HT_ (fun K hK=>?_);refine Kd.S_append_step k54 (w0:=w) w.heap.size (by rfl) (.tmp 18) (.tmp 25) 35 54 (.agg #[(I L 0),(I L 0),(I L 0),(I L 0),(I L 0),(Y none 0 0)]) 64 rfl Try.underlying35 info54 rfl (by decide) (by omega) u451005 Od (⟨(rd_T54 l0_5 Ja).f0,(⟨Oe,(⟨Ue,Xe,Jf⟩:S31),Ke⟩:S34)⟩:S54) [I L ((rd_T54 l0_5 Ja).f0),I L Oe,I L Ue,I L Xe,I L Jf,Y Xg Ke.length Jh] (fun k_=>some k_≠(Y Oc Mb.length Uc:Value).ownBlock∧k_≠Ka) (fun k_=>some k_=(Y Xg Ke.length Jh:Value).ownBlock) rfl rfl ?aP (fun k_ hk_=>((Kd.R_mono (ok':=fun k_=>((fun k_=>some k_≠(Y Oc Mb.length Uc:Value).ownBlock∧k_≠Ka)) k_∧some k_≠(u451005:Value).ownBlock) (Kd.R_types (Kd.R_apart' (Kf.out) (Kd.S_typed Kb.out) (by decide)) Ua.out (by decide)) (fun k_ hk=>⟨⟨hk.1.1.2,hk.2⟩,hk.1.2⟩))).1 k_ hk_.symm) ?aF ?aO ?aB ?aS ?aL ?_;(case aP=>exact k54_mkM _ _ _ (⟨(rd_T54 l0_5 Ja).f0,(⟨Oe,(⟨Ue,Xe,Jf⟩:S31),Ke⟩:S34)⟩:S54) (Kd.R_mono (Kd.R_tight rfl (Kd.R_mono (ok':=fun k_=>((fun k_=>some k_≠(Y Oc Mb.length Uc:Value).ownBlock∧k_≠Ka)) k_∧some k_≠(u451005:Value).ownBlock) (Kd.R_types (Kd.R_apart' (Kf.out) (Kd.S_typed Kb.out) (by decide)) Ua.out (by decide)) (fun k_ hk=>⟨⟨hk.1.1.2,hk.2⟩,hk.1.2⟩))) (fun _ h_=>h_)));(case aB=>exact (pB_ HB.out));(case aF=>exact (fun k_ hk=>⟨Kd.fresh' (Kd.R_lt (pR_ Xb.out)) k_ hk,Kd.freshB (pk_ Ua.out) k_ hk⟩));(case aO=>exact (pS_ (Kd.S_mono Kb.out (fun k_ hk=>⟨⟨hk.1.1,hk.1.2⟩,fun e_=>hk.2 e_⟩))));(case aS=>exact (below_size (pB_ HB.out)));(case aL=>have:=LMc18.out;omega);intro Os w28 ho hb hg hat;rw [← Ny460.out] at ho
       have n_:=an_ (Kd.R_over' (pR_ Xb.out) (Kd.S_typed (pS_ Kb.out)) (by decide) hg)<|an_ (blk_grown (pk_ Oa.out) hg (Kd.S_ne Kb.out Oa.out (by decide)))<|an_ (blk_grown (pk_ Xa.out) hg (Kd.S_ne Kb.out Xa.out (by decide)))<|an_ (blk_grown (pk_ Ma.out) hg (Kd.S_ne Kb.out Ma.out (by decide)))<|an_ (blk_grown (pk_ Ua.out) hg (Kd.S_away Kb.out (fun _ hk=>hk.1.2)))<|an_ (hb)<|D (ho)
       clear Xb Oa Xa Ma Ua HB Kb Kf;obtain ⟨Xb,Oa,Xa,Ma,Ua,HB,Kh⟩:=n_;clear ho hb hg hat;obtain ⟨Uf,Xf,eo29⟩:=Kd.S_slice Kh.out;(first|subst eo29|obtain ⟨rfl,rfl⟩:=sl_inj eo29);refine hK.out _ _ (bk6_ Ma.out (be6_ Ua.out)) (fun hHeld=>?_);clear hK K;refine nx_ (N:=some 26) ?_;refine pb_ 10 ?_;refine last_ (i:=11) (N:=none) (bz 12 4095) rfl rfl (one_of HT_.out (by kernel_rfl)) (by decide) (fun K hK=>?_);have hs30:w28.cell? ⟨Jb,5,none⟩=some (u451005):=bc_ Ma.out 5;have hfs30:=blk_frozen Ma.out 5;have hns30_0:=Jd.out;have hns30_1:=Md.out;have hns30_3:=Ug.out;have hms30_0:=Mf.out;have hms30_1:=Of.out;have hms30_3:=Ud.out;refine skip_ (w1:=?_) (by rfl) rfl ?_ ?_;rotate_left
       ·go_simp
        rfl
       refine hK.out _ _ ?_; clear hK K; refine done_ (done_of HT_.out (by kernel_rfl)) ?_
       try go_wp2
       go_roundg k1
       case measure => have := HK1.out; omega
       case rel=>exact ⟨(wrap64 (Ja + 1)),(y460),(Y Uf y460.length Xf),Z53,H',⟨by have:=HK1.out;omega⟩,⟨rM_ (Kd.R_types Xb.out Ma.out (by decide)) (fun _ hk=>trivial)⟩,⟨sM_ (Kd.S_types Kh.out Ma.out (by decide)) (fun _ hk=>hk.1.1)⟩,⟨pP_ Oa.out⟩,⟨pP_ Xa.out⟩,⟨pP_ Ma.out⟩,⟨pB_ HB.out⟩⟩
      ·rw [if_neg c18] at H
       exact absurd H (by simp)
     ·rw [if_neg c16] at H
      exact absurd H (by simp)
    ·rw [if_neg c15] at H
     exact absurd H (by simp)
   ·rw [if_neg c14] at H
    have c14b0:decide (Ja < (l0_5.length:Int))=false:=decide_eq_false c14;clear c14;simp only [Option.some.injEq,Prod.mk.injEq] at H;obtain ⟨rfl,rfl,rfl,rfl,rfl,rfl⟩:=H;(try have:=Mf.out);(try have:=Jd.out);(try have:=Of.out);(try have:=Md.out);have Us:=cells6 Ma.out;(try have:=Og.out);(try have:=Mg.out);have Uv:=cells6 Xa.out;obtain ⟨Jg,Kg,eo36⟩:=Kd.S_slice Kb.out;subst eo36
    go_wp2
    refine bodyPost_ret (results_cell_row rfl _ _ Mc 37 #[I L Ub,I L Jc,I L Kc,I L Xc,Y Oc Mb.length Uc,Y Jg Od.length Kg] (0,0) _ rfl (by exact pP_ Xa.out) Try.underlying37 rfl (by kernel_rfl)) rfl ?_;exact ⟨_,_,er_,by (with_reducible repeat (first|apply Kd.R_alloc|apply Kd.R_drewN|apply Kd.R_drew));exact Kd.R_mono (fr_ (fr_ (fr_ (fr_ (fr_ (fr_ (Kd.R_types Xb.out Xa.out (by decide)) 0 (I L Ub)) 1 (I L Jc)) 2 (I L Kc)) 3 (I L Xc)) 4 (Y Oc Mb.length Uc)) 5 (Y Jg Od.length Kg)) (fun _ hk=>trivial),by (with_reducible repeat (first|apply Kd.S_alloc|apply Kd.S_drewN|apply Kd.S_drew));exact Kd.S_mono (Kd.S_far (p:=⟨Mc,5,none⟩) (Kd.S_far (p:=⟨Mc,4,none⟩) (Kd.S_far (p:=⟨Mc,3,none⟩) (Kd.S_far (p:=⟨Mc,2,none⟩) (Kd.S_far (p:=⟨Mc,1,none⟩) (Kd.S_far (p:=⟨Mc,0,none⟩) (Kd.S_types Kb.out Xa.out (by decide)) (fun _ hk=>hk.2) (I L Ub)) (fun _ hk=>hk.2) (I L Jc)) (fun _ hk=>hk.2) (I L Kc)) (fun _ hk=>hk.2) (I L Xc)) (fun _ hk=>hk.2) (Y Oc Mb.length Uc)) (fun _ hk=>hk.2) (Y Jg Od.length Kg)) (fun _ hk=>hk.1),pB_ HB.out⟩

-- NOT PRINTED: function 49 (slices_overlaps_impl_Branch)

-- function 77 is not called

-- function 70 is not called

-- function 50 is not called

/-! ### slices.Insert of one element: function 23, by a walk of its own (its four roads) -/
set_option maxHeartbeats 8000000 in
set_option maxRecDepth 100000 in
theorem insE23_ {w0 W : World} {base n c : Nat} {A : Option Addr} {ok okp : Nat → Prop} {α : Type} {d : Kd α} (hszz : d.sz = 6) {xs : List α} {p : α} {cs : List Value} (hp : d.M W base okp p cs) (hokp : ∀ k, okp k → ok k ∧ some k ≠ (Value.slice A n c).ownBlock) (hfresh : ∀ k, W.heap.size ≤ k → ok k)
    (HO : Kd.R d 54 W base ok (.slice A n c) xs) (HB0 : Below base w0 W) (hsz : base ≤ W.heap.size) (hl : (xs.length + 1) * 64 ≤ 140737488355328) :
    Calls Try.prog 23 #[.slice A n c, .int .i64 n, .slice (some ⟨W.heap.size, 0, none⟩) 1 1] (W.alloc (.cells cs.toArray 54)) fun r w1 => ∃ v1, r = .returned v1 ∧ Kd.R d 54 w1 base ok v1 (xs ++ [p]) ∧ Below base w0 w1 ∧ W.grownBy w1 (Value.slice A n c).ownBlock ∧ (v1.ownBlock = (Value.slice A n c).ownBlock ∨ ∃ b, v1.ownBlock = some b ∧ W.heap.size ≤ b) := by
  have hu35 := Try.underlying35
  have hn : n = xs.length := (Kd.R_reads' HO).1
  subst hn
  have hnc : xs.length ≤ c := (Kd.R_reads' HO).2.1
  have HH := Aside0.mk HO
  have HP := Aside0.mk hp
  have HB := Aside0.mk HB0
  have HK := Aside0.mk hokp
  have HF := Aside0.mk hfresh
  clear HO hp HB0 hokp hfresh
  go_enter Try.func23, Try.ntmps23
  cases A with
  | none =>
    go_wp2_with (at_builtin; refine Kd.R_append d (w0 := w0) base rfl _ _ 35 54 (.agg #[(I L 0), (I L 0), (I L 0), (I L 0), (I L 0), (Y none 0 0)]) 64 rfl Try.underlying35 (by rw [hszz]; exact info54) hszz.symm (by rw [hszz]; decide) (by omega) (.slice none xs.length c) xs p cs ok _ rfl rfl HP.out HK.out HF.out HH.out HB.out hsz hl ?_; intro v1 w1 ho hb hg hat)
    all_goals (go_ret; exact ⟨_, rfl, ho, hb, hg, hat⟩)
  | some a =>
    obtain ⟨ab, ao, asp⟩ := a
    go_wp2_with (at_builtin; refine Kd.R_append d (w0 := w0) base rfl _ _ 35 54 (.agg #[(I L 0), (I L 0), (I L 0), (I L 0), (I L 0), (Y none 0 0)]) 64 rfl Try.underlying35 (by rw [hszz]; exact info54) hszz.symm (by rw [hszz]; decide) (by omega) (.slice (some ⟨ab, ao, asp⟩) xs.length c) xs p cs ok _ rfl rfl HP.out HK.out HF.out HH.out HB.out hsz hl ?_; intro v1 w1 ho hb hg hat)
    all_goals (go_ret; exact ⟨_, rfl, ho, hb, hg, hat⟩)
set_option maxHeartbeats 8000000 in
set_option maxRecDepth 100000 in
theorem insS23_ {w0 W : World} {base n c g k : Nat} {ok okp : Nat → Prop} {α : Type} {d : Kd α} (hszz : d.sz = 6) {xs : List α} {p : α} {cs : List Value} (hp : d.M W base okp p cs) (hokp : ∀ k, okp k → ok k ∧ some k ≠ some g) (hfresh : ∀ k, W.heap.size ≤ k → ok k)
    (HO : Kd.R d 54 W base ok (.slice (some ⟨g, 0, none⟩) n c) xs) (HB0 : Below base w0 W) (hsz : base ≤ W.heap.size) (hk : k < n) (hroom : n + 1 ≤ c) :
    Calls Try.prog 23 #[.slice (some ⟨g, 0, none⟩) n c, .int .i64 k, .slice (some ⟨W.heap.size, 0, none⟩) 1 1] (W.alloc (.cells cs.toArray 54)) fun r w1 => r = .returned (.slice (some ⟨g, 0, none⟩) (n + 1) c) ∧ Kd.R d 54 w1 base ok (.slice (some ⟨g, 0, none⟩) (n + 1) c) (xs.take k ++ p :: xs.drop k) ∧ Below base w0 w1 ∧ W.grownBy w1 (some g) := by
  have hu35 := Try.underlying35
  have hu54 := Try.underlying54
  have hnx := Aside0.mk (Kd.R_reads' HO).1
  obtain ⟨hok, inner, hown, hr⟩ := HO
  rcases hown.2 with ⟨hv, _⟩ | ⟨g', cap', cur, hv, hb, hh, h0, hcm, hcs, htake⟩
  · cases hv
  injection hv with ha hl_ hc
  injection ha with ha
  injection ha with hg
  subst hg; subst hc
  clear hl_
  have hgl := blk_lt hh
  have hil : inner.length = n * 6 := by rw [hr.1, ← hnx.out, hszz]
  have hcl : cs.length = 6 := (d.K_len (d.K_of_M hp)).trans hszz
  rw [← hnx.out, hszz] at htake
  rw [hszz] at hcs
  obtain ⟨Wv, hWv⟩ : ∃ Wv, Wv = (W.alloc (.cells cs.toArray 54)).drew := ⟨_, rfl⟩
  have hG0 : W.grownBy Wv none := by rw [hWv]; exact World.grownBy.trans (World.grownBy_alloc W _ none) ⟨rfl, rfl, rfl, Nat.le_refl _, fun _ _ _ => rfl⟩
  have hhv : Wv.heap[g]? = some (.cells cur 54 (0, 0)) := by rw [hG0.block g hgl (by simp), hh]
  have hvb : Wv.heap[W.heap.size]? = some (.cells cs.toArray 54 (0, 0)) := by rw [hWv]; exact heap_alloc_new _ _
  have hsz1 : (Try.prog.info? 54).map (·.size) = some 6 := by kernel_rfl
  have hnl : (inner.drop (k * 6)).length = (n - k) * 6 := by rw [List.length_drop, hil]; omega
  have hone := ones_ hr
  have hcp1 : ∀ ty dc sc, (Builtin.copy_ #[35, 35] ty #[.slice (some ⟨g, (k + 1) * 6, none⟩) (n - k) dc, .slice (some ⟨g, k * 6, none⟩) (n + 1 - k) sc]).run Try.prog Wv = .ok (goInt (Nat.min (n + 1 - k) (n - k))) (Wv.setCells g ((k + 1) * 6) (inner.drop (k * 6))) := fun ty dc sc =>
    copy_run_ Wv _ _ ty 54 g ((k + 1) * 6) _ dc ⟨g, k * 6, none⟩ _ sc 6 (inner.drop (k * 6)) hu35 hsz1 (by rw [hnl, show Nat.min (n + 1 - k) (n - k) = n - k from Nat.min_eq_right (by omega)])
      (fun j v hj => by
        rw [Addr.add_lit, cell_of_row Wv g _ cur 54 (0, 0) hhv, ← Array.getElem?_toList]
        rw [List.getElem?_drop] at hj
        rw [← htake, List.getElem?_take] at hj
        split at hj
        · exact hj
        · cases hj)
      (fun j hj => by rw [cell_of_row Wv g _ cur 54 (0, 0) hhv]; rw [hnl] at hj; simp; omega) (fun j _ => blk_frozen hhv _) (fun v hv => hone v (List.mem_of_mem_drop hv))
  obtain ⟨W1, hW1⟩ : ∃ W1, W1 = Wv.setCells g ((k + 1) * 6) (inner.drop (k * 6)) := ⟨_, rfl⟩
  rw [← hW1] at hcp1
  obtain ⟨c1, h1, h2, _⟩ := setCells_row (inner.drop (k * 6)) ((k + 1) * 6) Wv cur hhv (by rw [hnl, hcs]; omega)
  rw [← hW1] at h1
  have hvb1 : W1.heap[W.heap.size]? = some (.cells cs.toArray 54 (0, 0)) := by rw [hW1, setCells_far _ _ _ (by omega)]; exact hvb
  have hcp2 : ∀ ty dc, (Builtin.copy_ #[35, 35] ty #[.slice (some ⟨g, k * 6, none⟩) (n + 1 - k) dc, .slice (some ⟨W.heap.size, 0, none⟩) 1 1]).run Try.prog W1 = .ok (goInt (Nat.min 1 (n + 1 - k))) (W1.setCells g (k * 6) cs) := fun ty dc =>
    copy_run_ W1 _ _ ty 54 g (k * 6) _ dc ⟨W.heap.size, 0, none⟩ _ 1 6 cs hu35 hsz1 (by rw [hcl, show Nat.min 1 (n + 1 - k) = 1 by simp only [Nat.min_def]; split <;> omega])
      (fun j v hj => by rw [Addr.add_lit, cell_of_row W1 _ _ _ 54 (0, 0) hvb1, Nat.zero_add]; simpa using hj)
      (fun j hj => by rw [cell_of_row W1 g _ c1 54 (0, 0) h1]; simp; omega) (fun j _ => blk_frozen h1 _) (d.K_one (d.K_of_M hp))
  obtain ⟨HR, HG⟩ := R_shifted (d := d) (w1 := W1.setCells g (k * 6) cs) hG0 (Nat.le_of_lt hk) hnx.out hroom hcm hb hgl (hok g (by simp [Value.ownBlock])) (by simpa [Value.ownBlock] using hr) hp hokp hfresh hhv (by rw [hcs, hszz]) (by rw [hszz]; exact htake) (by rw [hW1, hszz])
  have HB := HB0.grown HG hsz (fun q hq => by injection hq with hq; omega)
  have HR1 := Aside0.mk HR
  have HG1 := Aside0.mk HG
  have HB1 := Aside0.mk HB
  have hz2 : ¬ ((k : Int) = (n : Int)) := by omega
  have hext : Extern.find Try.f49 = some (Extern.SlicesOverlaps.overlaps #[35, 35] #[4]) := by kernel_rfl
  have hsy : ∀ w, (sizeOf 54).run Try.prog w = .ok 6 w := fun w => by obtain ⟨i0, hi, hs⟩ := Option.map_eq_some_iff.1 hsz1; simp [sizeOf, typeInfo, hi, hs]
  have hsg : (W.alloc (.cells cs.toArray 54)).shape? g = some (54, cur.size) := by unfold World.shape?; rw [show (W.alloc (.cells cs.toArray 54)).heap[g]? = W.heap[g]? from (World.grownBy_alloc W _ none).block g hgl (by simp), hh]
  have hsv : (W.alloc (.cells cs.toArray 54)).shape? W.heap.size = some (54, cs.toArray.size) := by unfold World.shape?; rw [heap_alloc_new]
  have hov : ∀ lb cb, (callFunc 49 #[.slice (some ⟨W.heap.size, 0, none⟩) 1 1, .slice (some ⟨g, (k + 1) * 6, none⟩) lb cb]).run Try.prog (W.alloc (.cells cs.toArray 54)) = .ok (.value (.bool false)) (W.alloc (.cells cs.toArray 54)) := fun lb cb => by
    have h1 := Lib.run_overlaps_apart (P := Try.prog) (W.alloc (.cells cs.toArray 54)) 35 4 54 hu35 6 hsy ⟨W.heap.size, 0, none⟩ ⟨g, (k + 1) * 6, none⟩ 1 1 lb cb (fun h => Nat.ne_of_gt hgl h) 54 54 cs.toArray.size cur.size hsv hsg (by omega) (blk_frozen (heap_alloc_new _ _) 0) (blk_frozen (heap_alloc_new _ _) cs.toArray.size)
    have h2 := run_callFunc_extern Try.func49 (by kernel_rfl) (by kernel_rfl) (by kernel_rfl) hext #[.slice (some ⟨W.heap.size, 0, none⟩) 1 1, .slice (some ⟨g, (k + 1) * 6, none⟩) lb cb] (W.alloc (.cells cs.toArray 54))
    rw [h1] at h2
    exact h2
  have hkn : k ≤ n := by omega
  have hc63 : c ≤ 9223372036854775807 := by unfold maxLen at hcm; omega
  have hwr : ∀ x : Int, (x = (k : Int) + 1 ∨ x = (n : Int) + 1) → wrap64 x = x := by rintro x (rfl | rfl) <;> (unfold wrap64; omega)
  have hwi : IntKind.i64.wrap ((k : Int) + 1) = (k : Int) + 1 := by rw [IntKind.wrap_i64]; omega
  have htn : ((k : Int) + 1).toNat = k + 1 := by omega
  have hb5 : (k : Int) + 1 ≤ (n : Int) + 1 := by omega
  have hw3 : ¬ ((c : Int) < (n : Int) + 1) := by omega
  have hb0 : (0 : Int) ≤ (n : Int) + 1 := by omega
  have hb1 : (0 : Int) ≤ (k : Int) + 1 := by omega
  have hb3 : (k : Int) ≤ (n : Int) + 1 := by omega
  have hb2 : ¬ (c = k + 1) := by omega
  have hb4 : ¬ (c = k) := by omega
  subst hWv
  clear hW1 h1 h2 hvb1 HR HG HB hone hnl hil hcl htake hcs hhv hvb hG0 hh hr hown hok hp hokp hfresh
  go_enter Try.func23, Try.ntmps23
  go_wp2_with (simp only [hov])
  go_region_law ((refine copyS_ rfl _ _ 35 35 rfl (.slice (some ⟨g, (k + 1) * 6, none⟩) (n - k) (c - (k + 1))) (.slice (some ⟨g, k * 6, none⟩) (n + 1 - k) (c - k)) (by simp [Act.eval, Act.put]) (by simp [Act.eval, Act.put]) (hcp1 _ _ _) ?_))
  go_wp2_with (at_builtin; refine copyL_ _ rfl _ _ 35 35 rfl _ _ rfl rfl (hcp2 _ _) ?_)
  go_ret
  exact ⟨rfl, HR1.out, HB1.out, HG1.out⟩
set_option maxHeartbeats 8000000 in
set_option maxRecDepth 100000 in
theorem insG23_ {w0 W : World} {base n c g k : Nat} {ok okp : Nat → Prop} {α : Type} {d : Kd α} (hszz : d.sz = 6) {xs : List α} {p : α} {cs : List Value} (hp : d.M W base okp p cs) (hokp : ∀ k, okp k → ok k ∧ some k ≠ (Value.slice (some ⟨g, 0, none⟩) n c).ownBlock) (hfresh : ∀ k, W.heap.size ≤ k → ok k)
    (HO : Kd.R d 54 W base ok (.slice (some ⟨g, 0, none⟩) n c) xs) (HB0 : Below base w0 W) (hsz : base ≤ W.heap.size) (hk : k < n) (hroom : c < n + 1) (hl : (n + 1) * 64 ≤ 140737488355328) :
    Calls Try.prog 23 #[.slice (some ⟨g, 0, none⟩) n c, .int .i64 k, .slice (some ⟨W.heap.size, 0, none⟩) 1 1] (W.alloc (.cells cs.toArray 54)) fun r w1 => ∃ v1, r = .returned v1 ∧ Kd.R d 54 w1 base ok v1 (xs.take k ++ p :: xs.drop k) ∧ Below base w0 w1 ∧ W.grownBy w1 (Value.slice (some ⟨g, 0, none⟩) n c).ownBlock ∧ (v1.ownBlock = (Value.slice (some ⟨g, 0, none⟩) n c).ownBlock ∨ ∃ b, v1.ownBlock = some b ∧ W.heap.size ≤ b) := by
  have hu35 := Try.underlying35
  have hnx := Aside0.mk (Kd.R_reads' HO).1
  have hnc : n ≤ c := (Kd.R_reads' HO).2.1
  have hgb := Kd.R_base HO
  obtain ⟨hok, inner, hown, hr⟩ := HO
  rcases hown.2 with ⟨hv, _⟩ | ⟨g', cap', cur, hv, hb, hh, h0, hcm, hcs, htake⟩
  · cases hv
  injection hv with ha hl_ hc
  injection ha with ha
  injection ha with hg
  subst hg; subst hc
  clear hl_ h0
  have hgl := blk_lt hh
  have hil : inner.length = n * 6 := by rw [hr.1, ← hnx.out, hszz]
  have hcl : cs.length = 6 := (d.K_len (d.K_of_M hp)).trans hszz
  rw [← hnx.out, hszz] at htake
  rw [hszz] at hcs
  obtain ⟨i0, hi0, hzz⟩ := Option.map_eq_some_iff.1 info54
  simp only [Prod.mk.injEq] at hzz
  obtain ⟨hz0, hz1, hz2⟩ := hzz
  have hsz1 : (Try.prog.info? 54).map (·.size) = some 6 := by rw [hi0]; simp [hz1]
  have hone := ones_ hr
  have hcell : ∀ (w : World), w.heap[g]? = some (.cells cur 54 (0, 0)) → ∀ (o : Nat) (l : List Value) (m : Nat), l = (inner.drop o).take m → ∀ j v, l[j]? = some v → w.cell? ((⟨g, o, none⟩ : Addr).add j) = some v := fun w hw o l m hl j v hj => by
    subst hl
    rw [List.getElem?_take] at hj
    split at hj
    · rw [Addr.add_lit, cell_of_row w g _ cur 54 (0, 0) hw, ← Array.getElem?_toList]
      rw [List.getElem?_drop, ← htake, List.getElem?_take] at hj
      split at hj
      · exact hj
      · cases hj
    · cases hj
  obtain ⟨Wa, hWa⟩ : ∃ Wa, Wa = W.alloc (.cells cs.toArray 54) := ⟨_, rfl⟩
  have hGa : W.grownBy Wa none := by rw [hWa]; exact World.grownBy_alloc W _ none
  have hha : Wa.heap[g]? = some (.cells cur 54 (0, 0)) := by rw [hGa.block g hgl (by simp), hh]
  have hva : Wa.heap[W.heap.size]? = some (.cells cs.toArray 54 (0, 0)) := by rw [hWa]; exact heap_alloc_new _ _
  have hNa : Wa.heap.size = W.heap.size + 1 := by rw [hWa]; simp [World.alloc_eq]
  have hold : (Builtin.firstCells i0.size k (.slice (some ⟨g, 0, none⟩) k c)).run Try.prog Wa.drew = .ok (inner.take (k * 6)).toArray Wa.drew := by
    rw [hz1]
    exact run_firstCells_some Wa.drew 6 k ⟨g, 0, none⟩ k c (inner.take (k * 6)) (by rw [List.length_take, hil]; omega) (hcell Wa.drew hha 0 _ (k * 6) (by rw [List.drop_zero]))
  have hkk : (n : Int) + 1 - (k : Int) = ((n + 1 - k : Nat) : Int) := by omega
  have hik : k + (n + 1 - k) = n + 1 := by omega
  obtain ⟨G, hG⟩ : ∃ G, G = grownCap Wa (n + 1) c 54 := ⟨_, rfl⟩
  obtain ⟨ROW, hROW⟩ : ∃ ROW : Array Value, ROW = (inner.take (k * 6)).toArray ++ Builtin.zeroCells ((.agg #[(I L 0), (I L 0), (I L 0), (I L 0), (I L 0), (Y none 0 0)]) : Value).cells (n + 1 - k) ++ Builtin.zeroCells ((.agg #[(I L 0), (I L 0), (I L 0), (I L 0), (I L 0), (Y none 0 0)]) : Value).cells (G - (n + 1)) := ⟨_, rfl⟩
  obtain ⟨W1, hW1⟩ : ∃ W1, W1 = Wa.drew.alloc (.cells ROW 54) := ⟨_, rfl⟩
  obtain ⟨N, hN⟩ : ∃ N, N = Wa.heap.size := ⟨_, rfl⟩
  have hrz : ∀ ty, (Builtin.append_ #[35, 3] ty #[.slice (some ⟨g, 0, none⟩) k c, .int .i64 ((n : Int) + 1 - (k : Int))]).run Try.prog Wa = .ok (.slice (some ⟨N, 0, none⟩) (n + 1) G) W1 := fun ty => by
    have h := Lib.run_append_grow_zeros Wa 35 3 ty 54 i0 _ .i64 .i64 hu35 Try.underlying3 hi0 hz0 (some ⟨g, 0, none⟩) k c (inner.take (k * 6)) hold (n + 1 - k) (by omega) (by omega) (by omega) (by omega) (by rw [hz2]; omega) (by rw [hz2, hik]; exact growslice_fits hroom hl)
    rw [hik] at h
    rw [hkk, h, hN, hW1, hROW, hG]
  have hGn : n + 1 ≤ G := by rw [hG]; exact grownCap_ge _ _ _ _
  have hGm : G ≤ maxLen := by rw [hG]; exact grownCap_le_maxLen _ _ _ _ (by unfold maxLen; omega)
  have hG63 : G ≤ 9223372036854775807 := by unfold maxLen at hGm; omega
  have hzs : ((.agg #[(I L 0), (I L 0), (I L 0), (I L 0), (I L 0), (Y none 0 0)]) : Value).cells.size = 6 := by rfl
  have hRs : ROW.size = G * 6 := by
    rw [hROW]
    simp only [Array.size_append, List.size_toArray, List.length_take, hil, size_zeroCells, hzs]
    omega
  have hRt : ROW.toList.take (k * 6) = inner.take (k * 6) := by
    rw [hROW]
    simp only [Array.toList_append, List.append_assoc]
    exact List.take_left' (by rw [List.length_take, hil]; omega)
  have hG1 : W.grownBy W1 none := by rw [hW1]; exact hGa.trans (World.grownBy.trans (show Wa.grownBy Wa.drew none from ⟨rfl, rfl, rfl, Nat.le_refl _, fun _ _ _ => rfl⟩) (World.grownBy_alloc _ _ none))
  have hh1 : W1.heap[N]? = some (.cells ROW 54 (0, 0)) := by rw [hW1, hN]; exact heap_alloc_new Wa.drew _
  have hg1 : W1.heap[g]? = some (.cells cur 54 (0, 0)) := by rw [hG1.block g hgl (by simp), hh]
  have hv1 : W1.heap[W.heap.size]? = some (.cells cs.toArray 54 (0, 0)) := by rw [hW1, heap_alloc_old Wa.drew _ (show _ < Wa.heap.size by omega)]; exact hva
  obtain ⟨W2, hW2⟩ : ∃ W2, W2 = W1.setCells N (k * 6) cs := ⟨_, rfl⟩
  have hcpA : ∀ ty dc, (Builtin.copy_ #[35, 35] ty #[.slice (some ⟨N, k * 6, none⟩) (n + 1 - k) dc, .slice (some ⟨W.heap.size, 0, none⟩) 1 1]).run Try.prog W1 = .ok (goInt (Nat.min 1 (n + 1 - k))) W2 := fun ty dc => by
    rw [hW2]
    exact copy_run_ W1 _ _ ty 54 N (k * 6) _ dc ⟨W.heap.size, 0, none⟩ _ 1 6 cs hu35 hsz1 (by rw [hcl, show Nat.min 1 (n + 1 - k) = 1 by simp only [Nat.min_def]; split <;> omega])
      (fun j v hj => by rw [Addr.add_lit, cell_of_row W1 _ _ _ 54 (0, 0) hv1, Nat.zero_add]; simpa using hj)
      (fun j hj => by rw [cell_of_row W1 N _ ROW 54 (0, 0) hh1]; simp; omega) (fun j _ => blk_frozen hh1 _) (d.K_one (d.K_of_M hp))
  obtain ⟨c1, h1, h2, _⟩ := setCells_row cs (k * 6) W1 ROW hh1 (by omega)
  rw [← hW2] at h1
  have hg2 : W2.heap[g]? = some (.cells cur 54 (0, 0)) := by rw [hW2, setCells_far _ _ _ (by omega)]; exact hg1
  have hnl : (inner.drop (k * 6)).length = (n - k) * 6 := by rw [List.length_drop, hil]; omega
  obtain ⟨W3, hW3⟩ : ∃ W3, W3 = W2.drew.setCells N ((k + 1) * 6) (inner.drop (k * 6)) := ⟨_, rfl⟩
  have hcpB : ∀ ty dc sc, (Builtin.copy_ #[35, 35] ty #[.slice (some ⟨N, (k + 1) * 6, none⟩) (n - k) dc, .slice (some ⟨g, k * 6, none⟩) (n - k) sc]).run Try.prog W2.drew = .ok (goInt (Nat.min (n - k) (n - k))) W3 := fun ty dc sc => by
    rw [hW3]
    exact copy_run_ W2.drew _ _ ty 54 N ((k + 1) * 6) _ dc ⟨g, k * 6, none⟩ _ sc 6 (inner.drop (k * 6)) hu35 hsz1 (by rw [hnl, show Nat.min (n - k) (n - k) = n - k from Nat.min_self _])
      (hcell W2.drew hg2 (k * 6) _ (inner.drop (k * 6)).length (by rw [List.take_length]))
      (fun j hj => by rw [cell_of_row W2.drew N _ c1 54 (0, 0) h1]; rw [hnl] at hj; simp; omega) (fun j _ => blk_frozen (w := W2.drew) h1 _) (fun v hv => hone v (List.mem_of_mem_drop hv))
  obtain ⟨HR, HG⟩ := R_moved (d := d) (e := 54) (base := base) (Wv := W1.drew) (w1 := W3) (N := N) (row := ROW) (v := .slice (some ⟨g, 0, none⟩) n c) (hG1.trans ⟨rfl, rfl, rfl, Nat.le_refl _, fun _ _ _ => rfl⟩) (by omega) (by omega) (Nat.le_of_lt hk) hnx.out hGn hGm hok hr hp hokp hfresh hh1 (by rw [hRs, hszz]) (by rw [hszz]; exact hRt) (by rw [hW3, hW2, drew_setC, hszz])
  have HB := HB0.grown HG hsz hgb
  have HR1 := Aside0.mk HR
  have HG1 := Aside0.mk HG
  have HB1 := Aside0.mk HB
  have HN : Aside0 (W.heap.size ≤ N) := ⟨by omega⟩
  have hz3 : (c : Int) < (n : Int) + 1 := by omega
  have hz2_ : ¬ ((k : Int) = (n : Int)) := by omega
  have hkn : k ≤ n := by omega
  have hc63 : c ≤ 9223372036854775807 := by unfold maxLen at hcm; omega
  have hwr : ∀ x : Int, (x = (k : Int) + 1 ∨ x = (n : Int) + 1 ∨ x = (n : Int) + 1 - k) → wrap64 x = x := by rintro x (rfl | rfl | rfl) <;> (unfold wrap64; omega)
  have hwi : IntKind.i64.wrap ((k : Int) + 1) = (k : Int) + 1 := by rw [IntKind.wrap_i64]; omega
  have htn : ((k : Int) + 1).toNat = k + 1 := by omega
  have hb0 : (0 : Int) ≤ (n : Int) + 1 := by omega
  have hb1 : (0 : Int) ≤ (k : Int) + 1 := by omega
  have hb3 : (k : Int) ≤ (n : Int) + 1 := by omega
  have hb5 : (k : Int) + 1 ≤ (n : Int) + 1 := by omega
  have hci : ¬ (c = k) := by omega
  have hGi : ¬ (G = k) := by omega
  have hGim : ¬ (G = k + 1) := by omega
  subst hWa
  clear hW1 hW2 hW3 hN hG hROW h1 h2 hRs hRt hh1 hg1 hv1 hg2 hG1 hGa hha hva hNa hold hkk hik hcell HR HG HB hone hnl hil hcl htake hcs hh hr hown hok hp hokp hfresh hGm hcm hzs
  go_enter Try.func23, Try.ntmps23
  go_wp2_with (first
    | (at_builtin; refine Lib.wpList_append_run _ rfl _ _ _ _ rfl _ _ rfl rfl _ _ (hrz _) ?_)
    | (at_builtin; refine copyL_ _ rfl _ _ 35 35 rfl _ _ rfl rfl (hcpA _ _) ?_))
  go_region_law ((refine copyS_ rfl _ _ 35 35 rfl (.slice (some ⟨N, (k + 1) * 6, none⟩) (n - k) (G - (k + 1))) (.slice (some ⟨g, k * 6, none⟩) (n - k) (c - k)) (by simp [Act.eval, Act.put]) (by simp [Act.eval, Act.put]) (hcpB _ _ _) ?_))
  go_wp2
  go_ret
  exact ⟨_, rfl, HR1.out, HB1.out, HG1.out, .inr ⟨N, by simp [Value.ownBlock], HN.out⟩⟩
theorem insD23_ {w0 W : World} {base : Nat} {v : Value} {ok okp : Nat → Prop} {α : Type} {d : Kd α} (hszz : d.sz = 6) {xs : List α} {p : α} {cs : List Value} {i : Int} {vb : Nat} (hvb : vb = W.heap.size) (hp : d.M W base okp p cs) (hokp : ∀ k, okp k → ok k ∧ some k ≠ v.ownBlock) (hfresh : ∀ k, W.heap.size ≤ k → ok k)
    (HO : Kd.R d 54 W base ok v xs) (HB0 : Below base w0 W) (hsz : base ≤ W.heap.size) (hl : (xs.length + 1) * 64 ≤ 140737488355328) (hi : 0 ≤ i) (hin : i ≤ (xs.length : Int)) :
    Calls Try.prog 23 #[v, .int .i64 i, .slice (some ⟨vb, 0, none⟩) 1 1] (W.alloc (.cells cs.toArray 54)) fun r w1 => ∃ v1, r = .returned v1 ∧ Kd.R d 54 w1 base ok v1 (xs.take i.toNat ++ ([p] ++ xs.drop i.toNat)) ∧ Below base w0 w1 ∧ W.grownBy w1 v.ownBlock ∧ (v1.ownBlock = v.ownBlock ∨ ∃ b, v1.ownBlock = some b ∧ W.heap.size ≤ b) := by
  subst hvb
  obtain ⟨A, c, rfl⟩ := Kd.R_slice HO
  obtain ⟨n, hn⟩ : ∃ n, n = xs.length := ⟨_, rfl⟩
  rw [← hn] at HO hin hokp ⊢
  obtain ⟨k, rfl⟩ : ∃ k : Nat, i = k := ⟨i.toNat, by omega⟩
  rw [Int.toNat_natCast]
  show Calls Try.prog 23 #[.slice A n c, .int .i64 k, .slice (some ⟨W.heap.size, 0, none⟩) 1 1] (W.alloc (.cells cs.toArray 54)) fun r w1 => ∃ v1, r = .returned v1 ∧ Kd.R d 54 w1 base ok v1 (xs.take k ++ p :: xs.drop k) ∧ _
  by_cases hke : k = n
  · subst hke
    rw [show xs.take k ++ p :: xs.drop k = xs ++ [p] by rw [hn, List.take_length, List.drop_length]]
    exact insE23_ hszz hp hokp hfresh HO HB0 hsz hl
  · have hk : k < n := by omega
    obtain ⟨g, cap, ev, _⟩ := Kd.R_form HO (by omega)
    injection ev with ea en ec
    subst ea
    by_cases hr : n + 1 ≤ c
    · exact (insS23_ hszz hp (by simpa [Value.ownBlock] using hokp) hfresh HO HB0 hsz hk hr).mono fun e w' ⟨h1, h2, h3, h4⟩ => ⟨_, h1, h2, h3, by simpa [Value.ownBlock] using h4, .inl (by simp [Value.ownBlock])⟩
    · exact insG23_ hszz hp hokp hfresh HO HB0 hsz hk (by omega) (by rw [hn]; exact hl)
theorem ins23_ {w0 W : World} {base : Nat} {v : Value} {ok okp : Nat → Prop} {xs : List S54} {p : S54} {cs : List Value} {i : Int} {vb : Nat} (hvb : vb = W.heap.size) (hp : k54.M W base okp p cs) (hokp : ∀ k, okp k → ok k ∧ some k ≠ v.ownBlock) (hfresh : ∀ k, W.heap.size ≤ k → ok k)
    (HO : Kd.S k54 54 W base (fun k => ok k ∧ ¬ okp k) v xs) (HB0 : Below base w0 W) (hsz : base ≤ W.heap.size) (hl : (xs.length + 1) * 64 ≤ 140737488355328) (hi : 0 ≤ i) (hin : i ≤ (xs.length : Int)) :
    Calls Try.prog 23 #[v, .int .i64 i, .slice (some ⟨vb, 0, none⟩) 1 1] (W.alloc (.cells cs.toArray 54)) fun r w1 => ∃ v1, r = .returned v1 ∧ Kd.S k54 54 w1 base ok v1 (xs.take i.toNat ++ ([p] ++ xs.drop i.toNat)) ∧ Below base w0 w1 ∧ W.grownBy w1 v.ownBlock ∧ (v1.ownBlock = v.ownBlock ∨ ∃ b, v1.ownBlock = some b ∧ W.heap.size ≤ b) := by
  obtain ⟨f, hf, hR⟩ := Kd.S_tag HO xs.length okp (fun _ hk h2 => h2.2 hk)
  have H := insD23_ (d := Kd.tag f k54) rfl (xs := xs.zipIdx) (p := (p, xs.length)) hvb (k54.M_mono (fun k hk => ⟨hk, hf k hk⟩) hp) hokp hfresh (Kd.R_mono hR (fun _ hk => hk.1)) HB0 hsz (by rw [List.length_zipIdx]; exact hl) hi (by rw [List.length_zipIdx]; exact hin)
  refine H.mono fun r w1 => ?_
  rintro ⟨v1, e1, h1, h2, h3, h4⟩
  exact ⟨v1, e1, S_retag h1 (fun n => if n = xs.length then i.toNat else if n < i.toNat then n else n + 1) (zips_ xs p i.toNat (by omega)), h2, h3, h4⟩


/-! ### impl_FairNew: function 25 -/
def impl_FairNew.f (a0 : Int) : Option (Int × Int × Int × Int × (List (S51))) := (impl_isDelta.f a0).bind fun Uo => (if Uo = true then (some (a0, 0, 0, 0, ([] : List (S51)))) else (some (0, 0, 0, 0, ([] : List (S51)))))
set_option maxHeartbeats 8000000 in
set_option maxRecDepth 100000 in
theorem impl_FairNew.calls (a0 r1 r2 r3 r4 : Int) (r5 : List (S51)) (w : World) (h : impl_FairNew.f a0 = some (r1, r2, r3, r4, r5)) :
  Calls Try.prog 25 #[I L a0] w fun e w'=>∃ v4_:Value,e=.returned (.agg #[I L r1,I L r2,I L r3,I L r4,v4_])∧Kd.R k51 51 w' w.heap.size (fun _=>True) v4_ r5∧Below w.heap.size w w':=by
 have hu34 := Try.underlying34
 have HB := D (Below.refl w.heap.size w)
 have H : ((impl_isDelta.f a0).bind fun t468 => (if t468 = true then (some (a0, 0, 0, 0, ([] : List (S51)))) else (some (0, 0, 0, 0, ([] : List (S51)))))) = some (r1, r2, r3, r4, r5) := h
 clear h
 obtain ⟨t468, A20, H⟩ := bs_.mp H
 (try dsimp only at H)
 have A2 := D A20
 clear A20
 have HU3 := D H
 clear H
 go_enter Try.func25, Try.ntmps25
 go_upto_if 5 with (first|((with_reducible refine gate_dst (N:=2) rfl ?_);refine bx_ (N:=2) (cs:=#[I L 0,I L 0,I L 0,I L 0,Y none 0 0]) (t:=34) ?_;intro gb467 hg w4 hbox hb;have n_:=an_ (below_step (pB_ HB.out) hb)<|an_ (hbox)<|an_ (bg_ hg (pB_ HB.out):w.heap.size≤gb467)<|D (bg_ hg (pB_ HB.out):w.heap.size≤gb467);clear HB;obtain ⟨HB,BK467,GW467,GE467⟩:=n_;clear hb hbox hg)|((with_reducible refine gate_callee (f:=53) rfl ?_);refine goesL_ (some 4) rfl rfl Try.func53 (by kernel_rfl) rfl #[I L a0] rfl Z21 ?_;(with_reducible refine (impl_isDelta.calls a0 t468 _ A2.out).mono ?_);rintro e w' ⟨rfl,⟨nd,rfl⟩⟩;refine ⟨_,rfl,?_⟩))
 have H := HU3.out
 clear HU3
 by_cases c5 : t468 = true
 ·subst c5
  rw [if_pos rfl] at H;simp only [Option.some.injEq,Prod.mk.injEq] at H;obtain ⟨rfl,rfl,rfl,rfl,rfl⟩:=H;have hcz6_0:=cells5 BK467.out
  go_wp2
  refine bodyPost_ret (results_cell_row rfl _ _ gb467 34 #[I L a0,I L 0,I L 0,I L 0,Y none 0 0] (0,0) _ rfl (by exact pP_ BK467.out) Try.underlying34 rfl (by kernel_rfl)) rfl ?_;exact ⟨_,er_,by first|exact Kd.R_nil _ _ _ _ _|exact Kd.N_nil _ _ _ _ _|exact Kd.V_nil _ _ _ _ _|exact Kd.Q_nil _ _ _ _ _|exact Kd.S_nil _ _ _ _ _,pB_ HB.out⟩
 ·replace c5 := Bool.eq_false_iff.mpr c5
  subst c5;rw [if_neg (show ¬ (false=true) by decide)] at H;simp only [Option.some.injEq,Prod.mk.injEq] at H;obtain ⟨rfl,rfl,rfl,rfl,rfl⟩:=H;have hcz7_0:=cells5 BK467.out
  go_wp2
  refine bodyPost_ret (results_cell_row rfl _ _ gb467 34 #[I L 0,I L 0,I L 0,I L 0,Y none 0 0] (0,0) _ rfl (by exact pP_ BK467.out) Try.underlying34 rfl (by kernel_rfl)) rfl ?_;exact ⟨_,er_,by first|exact Kd.R_nil _ _ _ _ _|exact Kd.N_nil _ _ _ _ _|exact Kd.V_nil _ _ _ _ _|exact Kd.Q_nil _ _ _ _ _|exact Kd.S_nil _ _ _ _ _,pB_ HB.out⟩

/-! ### impl_TreeTenant: function 7 -/
def impl_TreeTenant.f (k : Nat) (a0_0 a0_1 a0_2 a0_3 : Int) (l0_4 : List (S51)) (l0_5 : List (S54)) (a1 a2 : Int) : Option (Int × Int × Int × Int × (List (S51)) × (List (S54)) × Int) := (impl_TreeOk.f k a0_0 a0_1 a0_2 a0_3 l0_4 l0_5).bind fun t471 => (if t471 = true then ((impl_FairJoin.f k a0_0 a0_1 a0_2 a0_3 l0_4 a1 a2).bind fun bt472 => (if bt472.2.2.2.2.2 = 0 then ((impl_copyTree.f k a0_0 a0_1 a0_2 a0_3 l0_4 l0_5).bind fun bt481 => ((impl_Fair_at.f k bt472.1 bt472.2.1 bt472.2.2.1 bt472.2.2.2.1 bt472.2.2.2.2.1 a1).bind fun t492 => ((impl_FairNew.f a0_0).bind fun bt493 => (if 0 ≤ t492 then (if t492 ≤ (bt481.2.2.2.2.2.length : Int) then (if bt481.2.2.2.2.2.length < 2199023255552 then (some (bt472.1, bt472.2.1, bt472.2.2.1, bt472.2.2.2.1, bt472.2.2.2.2.1, (bt481.2.2.2.2.2.take (t492 : Int).toNat ++ ([(⟨a1, (⟨bt493.1, (⟨bt493.2.1, bt493.2.2.1, bt493.2.2.2.1⟩ : S31), bt493.2.2.2.2⟩ : S34)⟩ : S54)] ++ bt481.2.2.2.2.2.drop (t492 : Int).toNat)), 0)) else (none)) else (none)) else (none))))) else (some (0, 0, 0, 0, ([] : List (S51)), ([] : List (S54)), bt472.2.2.2.2.2)))) else (some (0, 0, 0, 0, ([] : List (S51)), ([] : List (S54)), 1)))
def impl_TreeTenant.T8 : Bool × List (List Nat × List Nat) := (true, [([], []), ([0], [0]), ([], []), ([], []), ([2, 3], [2, 3]), ([], []), ([], []), ([6], [6]), ([7], [7]), ([8, 4], [8]), ([5, 9], [5, 9]), ([10], [10]), ([1, 4, 11, 9], [1, 4, 11]), ([0, 1, 2, 3, 4, 5, 6, 7, 8, 9, 10, 11, 12], []), ([13, 12, 12, 0, 1, 2, 3, 4, 5, 6, 7, 8, 9, 10, 11, 12], [12, 13])])
def impl_TreeTenant.B8 : List Nat := [0, 1, 0, 0, 12, 0, 0, 64, 192, 476, 1020, 2044, 4095, 8191, 16383]
theorem impl_TreeTenant.tab8 : rtab .any (opsOf Try.f7 8) = impl_TreeTenant.T8 := by kernel_rfl
theorem impl_TreeTenant.bits8 : waitsOk impl_TreeTenant.T8.2 impl_TreeTenant.B8 = true := by kernel_rfl
set_option maxHeartbeats 8000000 in
set_option maxRecDepth 100000 in
theorem impl_TreeTenant.calls (k : Nat) (a0_0 a0_1 a0_2 a0_3 : Int) (A0_4 : Option Addr) (c0_4 : Nat) (l0_4 : List (S51)) (A0_5 : Option Addr) (c0_5 : Nat) (l0_5 : List (S54)) (a1 a2 r1 r2 r3 r4 : Int) (r5 : List (S51)) (r6 : List (S54)) (r7 : Int) (w : World) (hr0_4 : Kd.C k51 w A0_4 l0_4.length l0_4) (hc0_4 : l0_4.length ≤ c0_4) (hr0_5 : Kd.C k54 w A0_5 l0_5.length l0_5) (hc0_5 : l0_5.length ≤ c0_5) (h : impl_TreeTenant.f k a0_0 a0_1 a0_2 a0_3 l0_4 l0_5 a1 a2 = some (r1, r2, r3, r4, r5, r6, r7)) :
  Calls Try.prog 7 #[.agg #[I L a0_0,I L a0_1,I L a0_2,I L a0_3,Y A0_4 l0_4.length c0_4,Y A0_5 l0_5.length c0_5],I L a1,I L a2] w fun e w'=>∃ v4_ v5_:Value,e=.returned (.tuple #[.agg #[I L r1,I L r2,I L r3,I L r4,v4_,v5_],I L r7])∧Kd.R k51 51 w' w.heap.size (fun _=>True) v4_ r5∧Kd.S k54 54 w' w.heap.size (fun k_=>some k_≠(v4_:Value).ownBlock) v5_ r6∧Below w.heap.size w w':=by
 have hu37 := Try.underlying37
 have hu34 := Try.underlying34
 have hu54 := Try.underlying54
 have HR0_4 := D hr0_4
 have HC0_4 := D hc0_4
 clear hr0_4 hc0_4
 have HR0_5 := D hr0_5
 have HC0_5 := D hc0_5
 clear hr0_5 hc0_5
 have HB := D (Below.refl w.heap.size w)
 have H:((impl_TreeOk.f k a0_0 a0_1 a0_2 a0_3 l0_4 l0_5).bind fun Oh=>(if Oh=true then ((impl_FairJoin.f k a0_0 a0_1 a0_2 a0_3 l0_4 a1 a2).bind fun bt472=>(if bt472.2.2.2.2.2=0 then ((impl_copyTree.f k a0_0 a0_1 a0_2 a0_3 l0_4 l0_5).bind fun bt481=>((impl_Fair_at.f k bt472.1 bt472.2.1 bt472.2.2.1 bt472.2.2.2.1 bt472.2.2.2.2.1 a1).bind fun Xe=>((impl_FairNew.f a0_0).bind fun bt493=>(if 0≤Xe then (if Xe≤(bt481.2.2.2.2.2.length:Int) then (if bt481.2.2.2.2.2.length < 2199023255552 then (some (bt472.1,bt472.2.1,bt472.2.2.1,bt472.2.2.2.1,bt472.2.2.2.2.1,(bt481.2.2.2.2.2.take (Xe:Int).toNat ++ ([(⟨a1,(⟨bt493.1,(⟨bt493.2.1,bt493.2.2.1,bt493.2.2.2.1⟩:S31),bt493.2.2.2.2⟩:S34)⟩:S54)] ++ bt481.2.2.2.2.2.drop (Xe:Int).toNat)),0)) else (none)) else (none)) else (none))))) else (some (0,0,0,0,([]:List (S51)),([]:List (S54)),bt472.2.2.2.2.2)))) else (some (0,0,0,0,([]:List (S51)),([]:List (S54)),1))))=some (r1,r2,r3,r4,r5,r6,r7):=h
 clear h
 obtain ⟨Oh, A40, H⟩ := bs_.mp H
 (try dsimp only at H)
 have A4 := D A40
 clear A40
 have HU5 := D H
 clear H
 go_enter Try.func7, Try.ntmps7
 go_upto_if 13 with (first|((with_reducible refine gate_dst (N:=3) rfl ?_);refine bx_ (N:=3) (cs:=#[I L a0_0,I L a0_1,I L a0_2,I L a0_3,Y A0_4 l0_4.length c0_4,Y A0_5 l0_5.length c0_5]) (t:=37) ?_;intro Ud hg w6 hbox hb;have n_:=an_ (below_step (pB_ HB.out) hb)<|an_ (hbox)<|an_ (bg_ hg (pB_ HB.out):w.heap.size≤Ud)<|D (bg_ hg (pB_ HB.out):w.heap.size≤Ud);clear HB;obtain ⟨HB,Ka,Kj,Mj⟩:=n_;clear hb hbox hg)|((with_reducible refine gate_dst (N:=6) rfl ?_);refine bx_ (N:=6) (cs:=#[I L 0,I L 0,I L 0,I L 0,Y none 0 0,Y none 0 0]) (t:=37) ?_;intro Je hg w7 hbox hb;have n_:=an_ (blk_below (pk_ Ka.out) hb)<|an_ (below_step (pB_ HB.out) hb)<|an_ (hbox)<|an_ (bg_ hg (pB_ HB.out):w.heap.size≤Je)<|an_ (bg_ hg (pB_ HB.out):w.heap.size≤Je)<|an_ (nl_ hg (pk_ Ka.out):Ud≠Je)<|D (by rw [hg];exact Nat.ne_of_gt (blk_lt (pk_ Ka.out)):Je≠Ud);clear Ka HB;obtain ⟨Ka,HB,Ua,Oj,Uj,Kg,Mg⟩:=n_;clear hb hbox hg;(try have:=Kg.out);(try have:=Mg.out);have Xj:=cells6 Ka.out)|((with_reducible refine gate_callee (f:=20) rfl ?_);refine goesL_ (some 12) rfl rfl Try.func20 (by kernel_rfl) rfl #[.agg #[I L a0_0,I L a0_1,I L a0_2,I L a0_3,Y A0_4 l0_4.length c0_4,Y A0_5 l0_5.length c0_5]] rfl Z21 ?_;(with_reducible refine (impl_TreeOk.calls k a0_0 a0_1 a0_2 a0_3 _ _ l0_4 _ _ l0_5 Oh _ ?side1 ?side2 ?side3 ?side4 A4.out).mono ?_);(case side1=>exact pC_ (Kd.C_below HR0_4.out HB.out));(case side2=>exact HC0_4.out);(case side3=>exact pC_ (Kd.C_below HR0_5.out HB.out));(case side4=>exact HC0_5.out);rintro e w10 ⟨rfl,hb⟩;refine ⟨_,rfl,?_⟩;have n_:=an_ (blk_below (pk_ Ka.out) hb)<|an_ (blk_below (pk_ Ua.out) hb)<|D (below_step (pB_ HB.out) hb);clear Ka Ua HB;obtain ⟨Ka,Ua,HB⟩:=n_;(try clear hb)))
 have H := HU5.out
 clear HU5
 by_cases c11 : Oh = true
 ·subst c11
  rw [if_pos rfl] at H;obtain ⟨⟨Xa,Jb,Ob,Kc,Kb,Xf⟩,A120,H⟩:=bs_.mp H;(try dsimp only at H);have A12:=D A120;clear A120;have HU13:=D H;clear H;(try have:=Kg.out);(try have:=Mg.out);have Xm:=cells6 Ka.out
  go_upto_if 24 with (first|((with_reducible refine gate_callee (f:=21) rfl ?_);refine goesL_ (some 20) rfl rfl Try.func21 (by kernel_rfl) rfl #[.agg #[I L a0_0,I L a0_1,I L a0_2,I L a0_3,Y A0_4 l0_4.length c0_4],I L a1,I L a2] rfl Z21 ?_;(with_reducible refine (impl_FairJoin.calls k a0_0 a0_1 a0_2 a0_3 _ _ l0_4 a1 a2 Xa Jb Ob Kc Kb Xf _ ?side1 ?side2 A12.out).mono ?_);(case side1=>exact pC_ (Kd.C_below HR0_4.out HB.out));(case side2=>exact HC0_4.out);rintro e w16 ⟨Xo,rfl,ho0,hb⟩;refine ⟨_,rfl,?_⟩;have n_:=an_ (Kd.R_lower ho0 (below_size (pB_ HB.out)))<|an_ (blk_below (pk_ Ka.out) hb)<|an_ (blk_below (pk_ Ua.out) hb)<|D (below_step (pB_ HB.out) hb);clear Ka Ua HB;obtain ⟨Mb,Ka,Ua,HB⟩:=n_;(try clear hb);(try clear ho0))|((with_reducible refine gate_dst (N:=8) rfl ?_);refine bx_ (N:=8) (cs:=#[I L 0,I L 0,I L 0,I L 0,Y none 0 0]) (t:=34) ?_;intro Uc hg w17 hbox hb;have n_:=an_ (Kd.R_below (pR_ Mb.out) hb)<|an_ (blk_below (pk_ Ka.out) hb)<|an_ (blk_below (pk_ Ua.out) hb)<|an_ (below_step (pB_ HB.out) hb)<|an_ (hbox)<|an_ (bg_ hg (pB_ HB.out):w.heap.size≤Uc)<|an_ (bg_ hg (pB_ HB.out):w.heap.size≤Uc)<|an_ (nl_ hg (pk_ Ka.out):Ud≠Uc)<|an_ (ng_ hg (pk_ Ka.out):Uc≠Ud)<|an_ (nl_ hg (pk_ Ua.out):Je≠Uc)<|D (by rw [hg];exact Nat.ne_of_gt (blk_lt (pk_ Ua.out)):Uc≠Je);clear Mb Ka Ua HB;obtain ⟨Mb,Ka,Ua,HB,Ma,Jp,Kp,Uf,Ji,Of,Xh⟩:=n_;clear hb hbox hg;(try have:=Ji.out);(try have:=Uf.out);(try have:=Xh.out);(try have:=Of.out);have Mp:=cells5 Ma.out;obtain ⟨Xb,Jc,eo21⟩:=Kd.R_slice Mb.out;subst eo21))
  refine relet_ (F:=fun w22=>Aside0 (Kd.R k51 51 w22 w.heap.size (fun _=>True) (Y Xb Kb.length Jc) Kb)∧Aside0 (w22.heap[Ud]?=some (.cells #[I L a0_0,I L a0_1,I L a0_2,I L a0_3,Y A0_4 l0_4.length c0_4,Y A0_5 l0_5.length c0_5] 37 (0,0)))∧Aside0 (w22.heap[Je]?=some (.cells #[I L 0,I L 0,I L 0,I L 0,Y none 0 0,Y none 0 0] 37 (0,0)))∧Aside0 (w22.heap[Uc]?=some (.cells #[I L Xa,I L Jb,I L Ob,I L Kc,Y Xb Kb.length Jc] 34 (0,0)))∧Aside0 (Below w.heap.size w w22)) ⟨⟨rM_ (Kd.R_types Mb.out Ma.out (by decide)) (fun _ hk=>trivial)⟩,⟨pP_ Ka.out⟩,⟨pP_ Ua.out⟩,⟨pP_ Ma.out⟩,⟨pB_ HB.out⟩⟩ ?_;(try clear Mb);(try clear Ka);(try clear Ua);(try clear Ma);(try clear HB);rintro w22 ⟨Mb,Ka,Ua,Ma,HB⟩;have H:=HU13.out;clear HU13
  by_cases c23 : Xf = 0
  ·rw [if_pos c23] at H
   have c23b0:(Xf == 0)=true:=beq_iff_eq.mpr c23;have c23b1:(Xf != 0)=false:=bne_eq_false_iff_eq.mpr c23;clear c23;refine rw_ c23b0 ?_;obtain ⟨⟨Ke,Me,Oe,Ue,Oc,Ub⟩,A240,H⟩:=bs_.mp H;(try dsimp only at H);have A24:=D A240;clear A240;obtain ⟨Xe,A250,H⟩:=bs_.mp H;(try dsimp only at H);have A25:=D A250;clear A250;obtain ⟨⟨Og,Ug,Xg,Jh,Jg⟩,A260,H⟩:=bs_.mp H;(try dsimp only at H);have A26:=D A260;clear A260
   by_cases c27 : 0 ≤ Xe
   ·rw [if_pos c27] at H
    have c27b0 := eq_true c27; have c27b1 : decide (0 ≤ Xe) = true := decide_eq_true c27; clear c27
    by_cases c28 : Xe ≤ (Ub.length : Int)
    ·rw [if_pos c28] at H
     have c28b0 := eq_true c28; have c28b1 : decide (Xe ≤ (Ub.length : Int)) = true := decide_eq_true c28; clear c28
     by_cases c29 : Ub.length < 2199023255552
     ·rw [if_pos c29] at H
      have LMc29:=D c29;clear c29;obtain ⟨y500,hy500⟩:∃ y_:List (S54),y_=(Ub.take (Xe:Int).toNat ++ ([(⟨a1,(⟨Og,(⟨Ug,Xg,Jh⟩:S31),Jg⟩:S34)⟩:S54)] ++ Ub.drop (Xe:Int).toNat)):=⟨_,rfl⟩
      replace H:(some (Xa,Jb,Ob,Kc,Kb,y500,0))=some (r1,r2,r3,r4,r5,r6,r7):=by first|(rw [hy500];with_reducible exact H)|(have H2_:=(Option.bind_some _ _).symm.trans H;rw [hy500];with_reducible exact H2_)|(have H2_:=(Option.bind_some _ _).symm.trans H;with_reducible exact H2_)|with_reducible exact H|(rw [hy500];exact H)|exact H
      have Ny500:=D hy500;clear hy500;simp only [Option.some.injEq,Prod.mk.injEq] at H;obtain ⟨rfl,rfl,rfl,rfl,rfl,rfl,rfl⟩:=H;(try have:=Kg.out);(try have:=Mg.out);(try have:=Uf.out);(try have:=Ji.out);have Jr:=cells6 Ka.out
      try go_wp2_with (first|((with_reducible refine gate_callee (f:=22) rfl ?_);refine goesL_ (some 28) rfl rfl Try.func22 (by kernel_rfl) rfl #[.agg #[I L a0_0,I L a0_1,I L a0_2,I L a0_3,Y A0_4 l0_4.length c0_4,Y A0_5 l0_5.length c0_5]] rfl Z21 ?_;(with_reducible refine (impl_copyTree.calls k a0_0 a0_1 a0_2 a0_3 _ _ l0_4 _ _ l0_5 Ke Me Oe Ue Oc Ub _ ?side1 ?side2 ?side3 ?side4 A24.out).mono ?_);(case side1=>exact pC_ (Kd.C_below HR0_4.out HB.out));(case side2=>exact HC0_4.out);(case side3=>exact pC_ (Kd.C_below HR0_5.out HB.out));(case side4=>exact HC0_5.out);rintro e w33 ⟨Ju,Ku,rfl,ho0,ho1,hb⟩;refine ⟨_,rfl,?_⟩;have n_:=an_ (Kd.R_elder' (pR_ Mb.out) (Kd.R_base ho0) hb)<|an_ (Kd.R_lower (nw_ ho0 (pR_ Mb.out)) (below_size (pB_ HB.out)))<|an_ (Kd.S_lower (Kd.S_new' ho1 (Kd.R_lt (pR_ Mb.out))) (below_size (pB_ HB.out)))<|an_ (blk_below (pk_ Ka.out) hb)<|an_ (blk_below (pk_ Ua.out) hb)<|an_ (blk_below (pk_ Ma.out) hb)<|D (below_step (pB_ HB.out) hb);clear Mb Ka Ua Ma HB;obtain ⟨Mb,Xd,Mc,Ka,Ua,Ma,HB⟩:=n_;(try clear hb);(try clear ho0);(try clear ho1))|((with_reducible refine gate_dst (N:=10) rfl ?_);refine bx_ (N:=10) (cs:=#[I L 0,I L 0,I L 0,I L 0,Y none 0 0,Y none 0 0]) (t:=37) ?_;intro Ja hg w34 hbox hb;have n_:=an_ (Kd.R_below (pR_ Mb.out) hb)<|an_ (Kd.R_below (pR_ Xd.out) hb)<|an_ (Kd.S_below (pS_ Mc.out) hb)<|an_ (blk_below (pk_ Ka.out) hb)<|an_ (blk_below (pk_ Ua.out) hb)<|an_ (blk_below (pk_ Ma.out) hb)<|an_ (below_step (pB_ HB.out) hb)<|an_ (hbox)<|an_ (bg_ hg (pB_ HB.out):w.heap.size≤Ja)<|an_ (bg_ hg (pB_ HB.out):w.heap.size≤Ja)<|an_ (nl_ hg (pk_ Ka.out):Ud≠Ja)<|an_ (ng_ hg (pk_ Ka.out):Ja≠Ud)<|an_ (nl_ hg (pk_ Ua.out):Je≠Ja)<|an_ (ng_ hg (pk_ Ua.out):Ja≠Je)<|an_ (nl_ hg (pk_ Ma.out):Uc≠Ja)<|D (by rw [hg];exact Nat.ne_of_gt (blk_lt (pk_ Ma.out)):Ja≠Uc);clear Mb Xd Mc Ka Ua Ma HB;obtain ⟨Mb,Xd,Mc,Ka,Ua,Ma,HB,Oa,Mu,Ou,Kf,Ki,Jf,Mi,Mf,Oi⟩:=n_;clear hb hbox hg;(try have:=Ki.out);(try have:=Kf.out);(try have:=Mi.out);(try have:=Jf.out);(try have:=Oi.out);(try have:=Mf.out);have Uu:=cells6 Oa.out;obtain ⟨Xc,Jd,eo39⟩:=Kd.R_slice Xd.out;subst eo39;obtain ⟨Md,Od,eo40⟩:=Kd.S_slice Mc.out;subst eo40;(try have:=Xh.out);(try have:=Of.out);have Ux:=cells5 Ma.out))
      have n0_:Aside0 (Kd.R k51 51 (((((((((((w34.setCell ⟨Ja,0,none⟩ (I L Ke)).setCell ⟨Ja,1,none⟩ (I L Me)).setCell ⟨Ja,2,none⟩ (I L Oe)).setCell ⟨Ja,3,none⟩ (I L Ue)).setCell ⟨Ja,4,none⟩ (Y Xc Oc.length Jd)).setCell ⟨Ja,5,none⟩ (Y Md Ub.length Od)).setCell ⟨Ja,0,none⟩ (I L Xa)).setCell ⟨Ja,1,none⟩ (I L Jb)).setCell ⟨Ja,2,none⟩ (I L Ob)).setCell ⟨Ja,3,none⟩ (I L Kc)).setCell ⟨Ja,4,none⟩ (Y Xb Kb.length Jc)) w.heap.size (fun k_=>some k_≠(Y Xc Oc.length Jd:Value).ownBlock) (Y Xb Kb.length Jc) Kb):=⟨rM_ (Kd.R_types Mb.out Oa.out (by decide)) (fun _ hk=>hk.1.2)⟩;have n1_:Aside0 (Kd.R k51 51 (((((((((((w34.setCell ⟨Ja,0,none⟩ (I L Ke)).setCell ⟨Ja,1,none⟩ (I L Me)).setCell ⟨Ja,2,none⟩ (I L Oe)).setCell ⟨Ja,3,none⟩ (I L Ue)).setCell ⟨Ja,4,none⟩ (Y Xc Oc.length Jd)).setCell ⟨Ja,5,none⟩ (Y Md Ub.length Od)).setCell ⟨Ja,0,none⟩ (I L Xa)).setCell ⟨Ja,1,none⟩ (I L Jb)).setCell ⟨Ja,2,none⟩ (I L Ob)).setCell ⟨Ja,3,none⟩ (I L Kc)).setCell ⟨Ja,4,none⟩ (Y Xb Kb.length Jc)) w.heap.size (fun k_=>some k_≠(Y Xb Kb.length Jc:Value).ownBlock) (Y Xc Oc.length Jd) Oc):=⟨rM_ (Kd.R_types Xd.out Oa.out (by decide)) (fun _ hk=>hk.1.2)⟩;have n2_:Aside0 (Kd.S k54 54 (((((((((((w34.setCell ⟨Ja,0,none⟩ (I L Ke)).setCell ⟨Ja,1,none⟩ (I L Me)).setCell ⟨Ja,2,none⟩ (I L Oe)).setCell ⟨Ja,3,none⟩ (I L Ue)).setCell ⟨Ja,4,none⟩ (Y Xc Oc.length Jd)).setCell ⟨Ja,5,none⟩ (Y Md Ub.length Od)).setCell ⟨Ja,0,none⟩ (I L Xa)).setCell ⟨Ja,1,none⟩ (I L Jb)).setCell ⟨Ja,2,none⟩ (I L Ob)).setCell ⟨Ja,3,none⟩ (I L Kc)).setCell ⟨Ja,4,none⟩ (Y Xb Kb.length Jc)) w.heap.size (fun k_=>some k_≠(Y Xb Kb.length Jc:Value).ownBlock∧some k_≠(Y Xc Oc.length Jd:Value).ownBlock) (Y Md Ub.length Od) Ub):=⟨sM_ (Kd.S_types Mc.out Oa.out (by decide)) (fun _ hk=>⟨hk.1.2,hk.1.1⟩)⟩;have n3_:Aside0 ((((((((((((w34.setCell ⟨Ja,0,none⟩ (I L Ke)).setCell ⟨Ja,1,none⟩ (I L Me)).setCell ⟨Ja,2,none⟩ (I L Oe)).setCell ⟨Ja,3,none⟩ (I L Ue)).setCell ⟨Ja,4,none⟩ (Y Xc Oc.length Jd)).setCell ⟨Ja,5,none⟩ (Y Md Ub.length Od)).setCell ⟨Ja,0,none⟩ (I L Xa)).setCell ⟨Ja,1,none⟩ (I L Jb)).setCell ⟨Ja,2,none⟩ (I L Ob)).setCell ⟨Ja,3,none⟩ (I L Kc)).setCell ⟨Ja,4,none⟩ (Y Xb Kb.length Jc)).heap[Ud]?=some (.cells #[I L a0_0,I L a0_1,I L a0_2,I L a0_3,Y A0_4 l0_4.length c0_4,Y A0_5 l0_5.length c0_5] 37 (0,0))):=⟨pP_ Ka.out⟩
      have n4_:Aside0 ((((((((((((w34.setCell ⟨Ja,0,none⟩ (I L Ke)).setCell ⟨Ja,1,none⟩ (I L Me)).setCell ⟨Ja,2,none⟩ (I L Oe)).setCell ⟨Ja,3,none⟩ (I L Ue)).setCell ⟨Ja,4,none⟩ (Y Xc Oc.length Jd)).setCell ⟨Ja,5,none⟩ (Y Md Ub.length Od)).setCell ⟨Ja,0,none⟩ (I L Xa)).setCell ⟨Ja,1,none⟩ (I L Jb)).setCell ⟨Ja,2,none⟩ (I L Ob)).setCell ⟨Ja,3,none⟩ (I L Kc)).setCell ⟨Ja,4,none⟩ (Y Xb Kb.length Jc)).heap[Je]?=some (.cells #[I L 0,I L 0,I L 0,I L 0,Y none 0 0,Y none 0 0] 37 (0,0))):=⟨pP_ Ua.out⟩;have n5_:Aside0 ((((((((((((w34.setCell ⟨Ja,0,none⟩ (I L Ke)).setCell ⟨Ja,1,none⟩ (I L Me)).setCell ⟨Ja,2,none⟩ (I L Oe)).setCell ⟨Ja,3,none⟩ (I L Ue)).setCell ⟨Ja,4,none⟩ (Y Xc Oc.length Jd)).setCell ⟨Ja,5,none⟩ (Y Md Ub.length Od)).setCell ⟨Ja,0,none⟩ (I L Xa)).setCell ⟨Ja,1,none⟩ (I L Jb)).setCell ⟨Ja,2,none⟩ (I L Ob)).setCell ⟨Ja,3,none⟩ (I L Kc)).setCell ⟨Ja,4,none⟩ (Y Xb Kb.length Jc)).heap[Uc]?=some (.cells #[I L Xa,I L Jb,I L Ob,I L Kc,Y Xb Kb.length Jc] 34 (0,0))):=⟨pP_ Ma.out⟩;have n6_:Aside0 ((((((((((((w34.setCell ⟨Ja,0,none⟩ (I L Ke)).setCell ⟨Ja,1,none⟩ (I L Me)).setCell ⟨Ja,2,none⟩ (I L Oe)).setCell ⟨Ja,3,none⟩ (I L Ue)).setCell ⟨Ja,4,none⟩ (Y Xc Oc.length Jd)).setCell ⟨Ja,5,none⟩ (Y Md Ub.length Od)).setCell ⟨Ja,0,none⟩ (I L Xa)).setCell ⟨Ja,1,none⟩ (I L Jb)).setCell ⟨Ja,2,none⟩ (I L Ob)).setCell ⟨Ja,3,none⟩ (I L Kc)).setCell ⟨Ja,4,none⟩ (Y Xb Kb.length Jc)).heap[Ja]?=some (.cells #[I L Xa,I L Jb,I L Ob,I L Kc,Y Xb Kb.length Jc,Y Md Ub.length Od] 37 (0,0))):=⟨pP_ Oa.out⟩
      have n7_:Aside0 (Below w.heap.size w (((((((((((w34.setCell ⟨Ja,0,none⟩ (I L Ke)).setCell ⟨Ja,1,none⟩ (I L Me)).setCell ⟨Ja,2,none⟩ (I L Oe)).setCell ⟨Ja,3,none⟩ (I L Ue)).setCell ⟨Ja,4,none⟩ (Y Xc Oc.length Jd)).setCell ⟨Ja,5,none⟩ (Y Md Ub.length Od)).setCell ⟨Ja,0,none⟩ (I L Xa)).setCell ⟨Ja,1,none⟩ (I L Jb)).setCell ⟨Ja,2,none⟩ (I L Ob)).setCell ⟨Ja,3,none⟩ (I L Kc)).setCell ⟨Ja,4,none⟩ (Y Xb Kb.length Jc))):=⟨pB_ HB.out⟩;(try clear Mb);(try clear Xd);(try clear Mc);(try clear Ka);(try clear Ua);(try clear Ma);(try clear Oa);(try clear HB);generalize (((((((((((w34.setCell ⟨Ja,0,none⟩ (I L Ke)).setCell ⟨Ja,1,none⟩ (I L Me)).setCell ⟨Ja,2,none⟩ (I L Oe)).setCell ⟨Ja,3,none⟩ (I L Ue)).setCell ⟨Ja,4,none⟩ (Y Xc Oc.length Jd)).setCell ⟨Ja,5,none⟩ (Y Md Ub.length Od)).setCell ⟨Ja,0,none⟩ (I L Xa)).setCell ⟨Ja,1,none⟩ (I L Jb)).setCell ⟨Ja,2,none⟩ (I L Ob)).setCell ⟨Ja,3,none⟩ (I L Kc)).setCell ⟨Ja,4,none⟩ (Y Xb Kb.length Jc))=w43 at n0_ n1_ n2_ n3_ n4_ n5_ n6_ n7_ ⊢;have Mb:=n0_;have Xd:=n1_;have Mc:=n2_;have Ka:=n3_;have Ua:=n4_;have Ma:=n5_;have Oa:=n6_;have HB:=n7_;clear n0_ n1_ n2_ n3_ n4_ n5_ n6_ n7_
      have n_:=an_ (Kd.R_drew Mb.out)<|an_ (Kd.R_drew Xd.out)<|an_ (Kd.S_drew Mc.out)<|an_ (blk_drew Ka.out)<|an_ (blk_drew Ua.out)<|an_ (blk_drew Ma.out)<|an_ (blk_drew Oa.out)<|D (below_drew1 HB.out)
      clear Mb Xd Mc Ka Ua Ma Oa HB;obtain ⟨Mb,Xd,Mc,Ka,Ua,Ma,Oa,HB⟩:=n_;refine start_ (n:=15) (S:=fun w'=>w'.cell? ⟨Ja,0,none⟩=some (I L Xa)∧w'.cell? ⟨Ja,1,none⟩=some (I L Jb)∧w'.cell? ⟨Ja,2,none⟩=some (I L Ob)∧w'.cell? ⟨Ja,3,none⟩=some (I L Kc)∧w'.cell? ⟨Ja,4,none⟩=some (Y Xb Kb.length Jc)∧w'.cell? ⟨Ja,5,none⟩=some (Y Md Ub.length Od)∧w'.cell? ⟨Uc,0,none⟩=some (I L Xa)∧w'.cell? ⟨Uc,1,none⟩=some (I L Jb)∧w'.cell? ⟨Uc,2,none⟩=some (I L Ob)∧w'.cell? ⟨Uc,3,none⟩=some (I L Kc)∧w'.cell? ⟨Uc,4,none⟩=some (Y Xb Kb.length Jc)∧w'.cell? ⟨Ud,0,none⟩=some (I L a0_0)∧w'.cell? ⟨Ud,1,none⟩=some (I L a0_1)∧w'.cell? ⟨Ud,2,none⟩=some (I L a0_2)∧w'.cell? ⟨Ud,3,none⟩=some (I L a0_3)∧w'.cell? ⟨Ud,4,none⟩=some (Y A0_4 l0_4.length c0_4)∧w'.cell? ⟨Ud,5,none⟩=some (Y A0_5 l0_5.length c0_5)) (ds:=[14]) (bz 15 0) (by kernel_rfl) rfl (by kernel_rfl) (bk6_ Oa.out (bk5_ Ma.out (be6_ Ka.out))) (fun hHeld=>?_);refine with_tabW impl_TreeTenant.tab8 impl_TreeTenant.bits8 (fun HT_ HW_=>?_);generalize w43.drew=w44 at Mb Xd Mc Ka Ua Ma Oa HB hHeld ⊢;refine pb_ 0 ?_;refine pb_ 3 ?_;refine pb_ 5 ?_;refine pb_ 6 ?_;refine pb_ 7 ?_;refine tb_ 1 rfl rfl hHeld Z30 ?_;refine tb_ 2 rfl rfl hHeld Z30 ?_;refine tb_ 8 rfl rfl hHeld Z30 ?_;refine oa_ 4 35 15 511 HT_ (fun K hK=>?_);refine goes_ Try.func24 (by kernel_rfl) rfl #[.agg #[I L Xa,I L Jb,I L Ob,I L Kc,Y Xb Kb.length Jc],I L a1] (by rfl) rfl rfl Z21 ?_;with_reducible refine (impl_Fair_at.calls k Xa Jb Ob Kc _ _ Kb a1 Xe _ ?side1 ?side2 A25.out).mono ?_
      (case side1 => exact pC_ ((Kd.R_reads' Mb.out).2.2)); (case side2 => exact (Kd.R_reads' Mb.out).2.1); rintro e w45 ⟨rfl, hb⟩; refine ⟨_, rfl, ?_⟩
      have n_:=an_ (Kd.R_below (pR_ Mb.out) hb)<|an_ (Kd.R_below (pR_ Xd.out) hb)<|an_ (Kd.S_below (pS_ Mc.out) hb)<|an_ (blk_below (pk_ Ka.out) hb)<|an_ (blk_below (pk_ Ua.out) hb)<|an_ (blk_below (pk_ Ma.out) hb)<|an_ (blk_below (pk_ Oa.out) hb)<|D (below_step (pB_ HB.out) hb)
      clear Mb Xd Mc Ka Ua Ma Oa HB;obtain ⟨Mb,Xd,Mc,Ka,Ua,Ma,Oa,HB⟩:=n_;refine hK.out _ _ (bk6_ Oa.out (bk5_ Ma.out (be6_ Ka.out))) (fun hHeld=>?_);clear hK K;refine nx_ (N:=some 35) ?_;refine oa_ 9 40 15 1023 HT_ (fun K hK=>?_);refine goes_ Try.func25 (by kernel_rfl) rfl #[I L a0_0] (by rfl) rfl rfl Z21 ?_;with_reducible refine (impl_FairNew.calls a0_0 Og Ug Xg Jh Jg _ A26.out).mono ?_
      rintro e w46 ⟨Mz, rfl, ho0, hb⟩; refine ⟨_, rfl, ?_⟩
      have n_:=an_ (Kd.R_elder' (pR_ Mb.out) (Kd.R_base ho0) hb)<|an_ (Kd.R_elder' (pR_ Xd.out) (Kd.R_base ho0) hb)<|an_ (Kd.S_elder' (pS_ Mc.out) (Kd.R_base ho0) hb)<|an_ (Kd.R_lower (nw_ (nw_ ho0 (pR_ Mb.out)) (pR_ Xd.out)) (below_size (pB_ HB.out)))<|an_ (blk_below (pk_ Ka.out) hb)<|an_ (blk_below (pk_ Ua.out) hb)<|an_ (blk_below (pk_ Ma.out) hb)<|an_ (blk_below (pk_ Oa.out) hb)<|D (below_step (pB_ HB.out) hb)
      clear Mb Xd Mc Ka Ua Ma Oa HB;obtain ⟨Mb,Xd,Mc,Uh,Ka,Ua,Ma,Oa,HB⟩:=n_;obtain ⟨Ui,Xi,eo47⟩:=Kd.R_slice Uh.out;(first|subst eo47|obtain ⟨rfl,rfl⟩:=sl_inj eo47);refine hK.out _ _ (bk6_ Oa.out (bk5_ Ma.out (be6_ Ka.out))) (fun hHeld=>?_);clear hK K;refine nx_ (N:=some 40) ?_;refine pb_ 10 ?_;refine oa_ 11 42 15 4095 HT_ (fun K hK=>?_);refine value_ (w1:=?_) (v:=?_) (by rfl) rfl ?_ ?_;rotate_left 2
      ·go_simp
       constructor
       ·rfl
       ·rfl
      refine hK.out _ _ ⟨(blk_cell (blk_alloc Oa.out _) 0).trans rfl,(blk_cell (blk_alloc Oa.out _) 1).trans rfl,(blk_cell (blk_alloc Oa.out _) 2).trans rfl,(blk_cell (blk_alloc Oa.out _) 3).trans rfl,(blk_cell (blk_alloc Oa.out _) 4).trans rfl,(blk_cell (blk_alloc Oa.out _) 5).trans rfl,(blk_cell (blk_alloc Ma.out _) 0).trans rfl,(blk_cell (blk_alloc Ma.out _) 1).trans rfl,(blk_cell (blk_alloc Ma.out _) 2).trans rfl,(blk_cell (blk_alloc Ma.out _) 3).trans rfl,(blk_cell (blk_alloc Ma.out _) 4).trans rfl,(blk_cell (blk_alloc Ka.out _) 0).trans rfl,(blk_cell (blk_alloc Ka.out _) 1).trans rfl,(blk_cell (blk_alloc Ka.out _) 2).trans rfl,(blk_cell (blk_alloc Ka.out _) 3).trans rfl,(blk_cell (blk_alloc Ka.out _) 4).trans rfl,(blk_cell (blk_alloc Ka.out _) 5).trans rfl⟩ (fun hHeld=>?_);clear hK K;refine nx_ (N:=some 42) ?_;refine oa_ 12 43 15 8191 HT_ (fun K hK=>?_);have hj_:0≤(Xe:Int):=od_ Z52;have hl_:(Xe:Int)≤(Ub.length:Int):=od_ Z52;refine goes_ Try.func23 (by kernel_rfl) rfl #[Y Md Ub.length Od,I L Xe,Y (some ⟨_,0,none⟩) 1 1] (by rfl) rfl rfl Z32 ?_;refine (ins23_ (w0:=w) (base:=w.heap.size) (ok:=(fun k_=>some k_≠(Y Xb Kb.length Jc:Value).ownBlock∧some k_≠(Y Xc Oc.length Jd:Value).ownBlock)) (okp:=(fun k_=>some k_=(Y Ui Jg.length Xi:Value).ownBlock)) (xs:=Ub) (p:=(⟨a1,(⟨Og,(⟨Ug,Xg,Jh⟩:S31),Jg⟩:S34)⟩:S54)) (cs:=[I L a1,I L Og,I L Ug,I L Xg,I L Jh,Y Ui Jg.length Xi]) ?aV ?aP (fun k_ hk_=>((Kd.R_mono (ok':=fun k_=>((fun k_=>some k_≠(Y Xb Kb.length Jc:Value).ownBlock∧some k_≠(Y Xc Oc.length Jd:Value).ownBlock)) k_∧some k_≠(Y Md Ub.length Od:Value).ownBlock) (Kd.R_apart' (Uh.out) (Kd.S_typed Mc.out) (by decide)) (fun k_ hk=>⟨⟨hk.1.1.2,hk.1.2⟩,hk.2⟩))).1 k_ hk_.symm) ?aF ?aO ?aB ?aS ?aL hj_ hl_).mono ?_;(case aV=>first|rfl|(simp;done)|(go_simp;done));(case aP=>exact k54_mkM _ _ _ (⟨a1,(⟨Og,(⟨Ug,Xg,Jh⟩:S31),Jg⟩:S34)⟩:S54) (Kd.R_mono (Kd.R_tight rfl (Kd.R_mono (ok':=fun k_=>((fun k_=>some k_≠(Y Xb Kb.length Jc:Value).ownBlock∧some k_≠(Y Xc Oc.length Jd:Value).ownBlock)) k_∧some k_≠(Y Md Ub.length Od:Value).ownBlock) (Kd.R_apart' (Uh.out) (Kd.S_typed Mc.out) (by decide)) (fun k_ hk=>⟨⟨hk.1.1.2,hk.1.2⟩,hk.2⟩))) (fun _ h_=>h_)));(case aB=>exact (pB_ HB.out));(case aF=>exact (fun k_ hk=>⟨Kd.fresh' (Kd.R_lt (pR_ Mb.out)) k_ hk,Kd.fresh' (Kd.R_lt (pR_ Xd.out)) k_ hk⟩));(case aO=>exact (pS_ (Kd.S_mono Mc.out (fun k_ hk=>⟨⟨hk.1.1,hk.1.2⟩,fun e_=>hk.2 e_⟩))));(case aS=>exact (below_size (pB_ HB.out)));(case aL=>have:=LMc29.out;omega);rintro e w48 ⟨Oz,rfl,ho,hb,hg,hat⟩;refine ⟨_,rfl,?_⟩;clear hj_ hl_;rw [← Ny500.out] at ho
      have n_:=an_ (blk_grown (pk_ Ka.out) hg (Kd.S_ne Mc.out Ka.out (by decide)))<|an_ (blk_grown (pk_ Ua.out) hg (Kd.S_ne Mc.out Ua.out (by decide)))<|an_ (Kd.R_over' (pR_ Mb.out) (Kd.S_typed (pS_ Mc.out)) (by decide) hg)<|an_ (blk_grown (pk_ Ma.out) hg (Kd.S_ne Mc.out Ma.out (by decide)))<|an_ (Kd.R_over' (pR_ Xd.out) (Kd.S_typed (pS_ Mc.out)) (by decide) hg)<|an_ (blk_grown (pk_ Oa.out) hg (Kd.S_ne Mc.out Oa.out (by decide)))<|an_ (hb)<|D (ho)
      clear Ka Ua Mb Ma Xd Oa HB Mc Uh;obtain ⟨Ka,Ua,Mb,Ma,Xd,Oa,HB,Jj⟩:=n_;clear ho hb hg hat;obtain ⟨Kh,Mh,eo49⟩:=Kd.S_slice Jj.out;(first|subst eo49|obtain ⟨rfl,rfl⟩:=sl_inj eo49);refine hK.out _ _ (bk6_ Oa.out (bk5_ Ma.out (be6_ Ka.out))) (fun hHeld=>?_);clear hK K;refine nx_ (N:=some 43) ?_;refine pb_ 13 ?_;refine last_ (i:=14) (N:=none) (bz 15 32767) rfl rfl (one_of HT_.out (by kernel_rfl)) (by decide) (fun K hK=>?_);have hs50:w48.cell? ⟨Ja,5,none⟩=some (Y Md Ub.length Od):=bc_ Oa.out 5;have hfs50:=blk_frozen Oa.out 5;have hns50_0:=Kf.out;have hns50_1:=Jf.out;have hns50_2:=Mf.out;have hms50_0:=Ki.out;have hms50_1:=Mi.out;have hms50_2:=Oi.out;refine skip_ (w1:=?_) (by rfl) rfl ?_ ?_;rotate_left
      ·go_simp
       rfl
      refine hK.out _ _ ?_;clear hK K;refine done_ (done_of HT_.out (by kernel_rfl)) ?_;have Uz:=cells6 Oa.out;have Ub1:=cells6 Ua.out
      try go_wp2
      refine bodyPost_ret (results_ct rfl _ _ Je 37 #[I L Xa,I L Jb,I L Ob,I L Kc,Y Xb Kb.length Jc,Y Kh y500.length Mh] (0,0) _ rfl (by exact pP_ Ua.out) Try.underlying37 rfl (by kernel_rfl)) rfl ?_;exact ⟨_,_,er_,by (with_reducible repeat (first|apply Kd.R_alloc|apply Kd.R_drewN|apply Kd.R_drew));exact Kd.R_mono (fr_ (fr_ (fr_ (fr_ (fr_ (fr_ (Kd.R_far (p:=⟨Ja,5,none⟩) (Kd.R_types (Kd.R_types Mb.out Oa.out (by decide)) Ua.out (by decide)) (fun _ hk=>hk.1.2) (Y Kh y500.length Mh)) 0 (I L Xa)) 1 (I L Jb)) 2 (I L Ob)) 3 (I L Kc)) 4 (Y Xb Kb.length Jc)) 5 (Y Kh y500.length Mh)) (fun _ hk=>trivial),by (with_reducible repeat (first|apply Kd.S_alloc|apply Kd.S_drewN|apply Kd.S_drew));exact Kd.S_mono (Kd.S_far (p:=⟨Je,5,none⟩) (Kd.S_far (p:=⟨Je,4,none⟩) (Kd.S_far (p:=⟨Je,3,none⟩) (Kd.S_far (p:=⟨Je,2,none⟩) (Kd.S_far (p:=⟨Je,1,none⟩) (Kd.S_far (p:=⟨Je,0,none⟩) (Kd.S_far (p:=⟨Ja,5,none⟩) (Kd.S_types (Kd.S_types Jj.out Oa.out (by decide)) Ua.out (by decide)) (fun _ hk=>hk.1.2) (Y Kh y500.length Mh)) (fun _ hk=>hk.2) (I L Xa)) (fun _ hk=>hk.2) (I L Jb)) (fun _ hk=>hk.2) (I L Ob)) (fun _ hk=>hk.2) (I L Kc)) (fun _ hk=>hk.2) (Y Xb Kb.length Jc)) (fun _ hk=>hk.2) (Y Kh y500.length Mh)) (fun _ hk=>hk.1.1.1),pB_ HB.out⟩
     ·rw [if_neg c29] at H
      exact absurd H (by simp)
    ·rw [if_neg c28] at H
     exact absurd H (by simp)
   ·rw [if_neg c27] at H
    exact absurd H (by simp)
  ·rw [if_neg c23] at H
   have c23b0:(Xf == 0)=false:=beq_eq_false_iff_ne.mpr c23;have c23b1:(Xf != 0)=true:=bne_iff_ne.mpr c23;refine rw_ c23b0 ?_;simp only [Option.some.injEq,Prod.mk.injEq] at H;obtain ⟨rfl,rfl,rfl,rfl,rfl,rfl,rfl⟩:=H;(try have:=Mg.out);(try have:=Kg.out);(try have:=Of.out);(try have:=Xh.out);have Ud1:=cells6 Ua.out
   go_wp2
   refine bodyPost_ret (results_ct rfl _ _ Je 37 #[I L 0,I L 0,I L 0,I L 0,Y none 0 0,Y none 0 0] (0,0) _ rfl Z4 Try.underlying37 rfl (by kernel_rfl)) rfl ?_;exact ⟨_,_,er_,by first|exact Kd.R_nil _ _ _ _ _|exact Kd.N_nil _ _ _ _ _|exact Kd.V_nil _ _ _ _ _|exact Kd.Q_nil _ _ _ _ _|exact Kd.S_nil _ _ _ _ _,by first|exact Kd.S_nil _ _ _ _ _|exact Kd.N_nil _ _ _ _ _|exact Kd.V_nil _ _ _ _ _|exact Kd.Q_nil _ _ _ _ _|exact Kd.R_nil _ _ _ _ _,pB_ HB.out⟩
 ·replace c11 := Bool.eq_false_iff.mpr c11
  subst c11;rw [if_neg (show ¬ (false=true) by decide)] at H;simp only [Option.some.injEq,Prod.mk.injEq] at H;obtain ⟨rfl,rfl,rfl,rfl,rfl,rfl,rfl⟩:=H;(try have:=Mg.out);(try have:=Kg.out);have Uf1:=cells6 Ua.out
  go_wp2
  refine bodyPost_ret (results_ct rfl _ _ Je 37 #[I L 0,I L 0,I L 0,I L 0,Y none 0 0,Y none 0 0] (0,0) _ rfl Z4 Try.underlying37 rfl (by kernel_rfl)) rfl ?_;exact ⟨_,_,er_,by first|exact Kd.R_nil _ _ _ _ _|exact Kd.N_nil _ _ _ _ _|exact Kd.V_nil _ _ _ _ _|exact Kd.Q_nil _ _ _ _ _|exact Kd.S_nil _ _ _ _ _,by first|exact Kd.S_nil _ _ _ _ _|exact Kd.N_nil _ _ _ _ _|exact Kd.V_nil _ _ _ _ _|exact Kd.Q_nil _ _ _ _ _|exact Kd.R_nil _ _ _ _ _,pB_ HB.out⟩

end Go.Proofs.Ytjfknflhajeglab.PFnExactTreeTenant
