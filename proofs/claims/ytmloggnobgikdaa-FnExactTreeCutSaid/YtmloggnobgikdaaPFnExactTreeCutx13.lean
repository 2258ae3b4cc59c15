-- by a program of this session's, over the kit's words
import Derived.Test.YtmloggnobgikdaaPZFnExactTreeCut
import Derived.Test.YtmloggnobgikdaaPFnExactTreeCutx0
import Derived.Test.YtmloggnobgikdaaPFnExactTreeCutx8
import Derived.Test.YtmloggnobgikdaaPFnExactTreeCutx12
namespace Go.Proofs.Ytmloggnobgikdaa.PFnExactTreeCut
open Go.RowKit Go.Proofs.YtmloggnobgikdaaW.PrintWords Go.Proofs.YtmloggnobgikdaaW.PrintLast Go.Proofs.YtmloggnobgikdaaW.PrintMore Go.Proofs.YtmloggnobgikdaaV Go.Proofs.Ytmloggnobgikdaa.ZFnExactTreeCut
open Go.Value renaming int → I, slice → Y
open Go.IntKind renaming i64 → L
open Aside0 renaming mk → D
open Option renaming bind_eq_some_iff → bs_
attribute [local go_sem] max2_int min2_int max_two min_two max_three min_three max_four min_four   -- for this text's walks alone
set_option linter.unusedVariables false
set_option linter.unusedSimpArgs false

/-! ### impl_copyTree: function 21 -/
def impl_copyTree.l0 : Nat → List (S50) → Int → Int → Int → Int → Int → Int → List (S57) → List (S50) → Option (Int × Int × Int × Int × (List (S57)) × (List (S50)))
 | 0, _, _, _, _, _, _, _, _, _ => none
 | k + 1,x11,x12,x13,x372000,x372001,x372002,x372003,x372004,x372005=>if x13 < x12 then (if 0≤x13 then (if x13 < (x11.length:Int) then ((impl_copyFair.f ((rd_T50 x11 x13).f1.f0) ((rd_T50 x11 x13).f1.f1.f0) ((rd_T50 x11 x13).f1.f1.f1) ((rd_T50 x11 x13).f1.f1.f2) ((rd_T50 x11 x13).f1.f2)).bind fun bt374=>(if x372005.length < 2199023255552 then (impl_copyTree.l0 k x11 x12 (wrap64 (x13 + 1)) x372000 x372001 x372002 x372003 x372004 (x372005 ++ [(⟨(rd_T50 x11 x13).f0,(⟨bt374.1,(⟨bt374.2.1,bt374.2.2.1,bt374.2.2.2.1⟩:S31),bt374.2.2.2.2⟩:S34)⟩:S50)])) else (none))) else (none)) else (none)) else (some (x372000,x372001,x372002,x372003,x372004,x372005))
def impl_copyTree.f (k : Nat) (a0_0 a0_1 a0_2 a0_3 : Int) (l0_4 : List (S57)) (l0_5 : List (S50)) : Option (Int × Int × Int × Int × (List (S57)) × (List (S50))) := (impl_copyFair.f a0_0 a0_1 a0_2 a0_3 l0_4).bind fun bt364 => (impl_copyTree.l0 k l0_5 (l0_5.length : Int) 0 bt364.1 bt364.2.1 bt364.2.2.1 bt364.2.2.2.1 bt364.2.2.2.2 ([] : List (S50)))
def impl_copyTree.T5 : Bool × List (List Nat × List Nat) := (true, [([], []), ([0], [0]), ([], []), ([2], [2]), ([], []), ([4], [4]), ([5], [5]), ([3, 6], [3, 6]), ([7], [7]), ([1, 8, 6], [1, 8]), ([0, 1, 2, 3, 4, 5, 6, 7, 8, 9], []), ([10, 9, 9, 0, 1, 2, 3, 4, 5, 6, 7, 8, 9], [9, 10])])
def impl_copyTree.B5 : List Nat := [0, 1, 0, 4, 0, 16, 48, 124, 252, 511, 1023, 2047]
theorem impl_copyTree.tab5 : rtab .any (opsOf Try.f21 5) = impl_copyTree.T5 := by kernel_rfl
theorem impl_copyTree.bits5 : waitsOk impl_copyTree.T5.2 impl_copyTree.B5 = true := by kernel_rfl
set_option maxHeartbeats 8000000 in
set_option maxRecDepth 100000 in
theorem impl_copyTree.calls (k : Nat) (a0_0 a0_1 a0_2 a0_3 : Int) (A0_4 : Option Addr) (c0_4 : Nat) (l0_4 : List (S57)) (A0_5 : Option Addr) (c0_5 : Nat) (l0_5 : List (S50)) (r1 r2 r3 r4 : Int) (r5 : List (S57)) (r6 : List (S50)) (w : World) (hr0_4 : Kd.C k57 w A0_4 l0_4.length l0_4) (hc0_4 : l0_4.length ≤ c0_4) (hr0_5 : Kd.C k50 w A0_5 l0_5.length l0_5) (hc0_5 : l0_5.length ≤ c0_5) (h : impl_copyTree.f k a0_0 a0_1 a0_2 a0_3 l0_4 l0_5 = some (r1, r2, r3, r4, r5, r6)) :
  Calls Try.prog 21 #[.agg #[I L a0_0,I L a0_1,I L a0_2,I L a0_3,Y A0_4 l0_4.length c0_4,Y A0_5 l0_5.length c0_5]] w fun e w'=>∃ v4_ v5_:Value,e=.returned (.agg #[I L r1,I L r2,I L r3,I L r4,v4_,v5_])∧Kd.R k57 57 w' w.heap.size (fun _=>True) v4_ r5∧Kd.S k50 50 w' w.heap.size (fun k_=>some k_≠(v4_:Value).ownBlock) v5_ r6∧Below w.heap.size w w':=by
 have hu37 := Try.underlying37
 have hu34 := Try.underlying34
 have hu50 := Try.underlying50
 have HR0_4 := D hr0_4
 have HC0_4 := D hc0_4
 clear hr0_4 hc0_4
 have HR0_5 := D hr0_5
 have HC0_5 := D hc0_5
 clear hr0_5 hc0_5
 have HB := D (Below.refl w.heap.size w)
 have H:((impl_copyFair.f a0_0 a0_1 a0_2 a0_3 l0_4).bind fun bt364=>(impl_copyTree.l0 k l0_5 (l0_5.length:Int) 0 bt364.1 bt364.2.1 bt364.2.2.1 bt364.2.2.2.1 bt364.2.2.2.2 ([]:List (S50))))=some (r1,r2,r3,r4,r5,r6):=h
 clear h
 obtain ⟨⟨Ub, Jc, Kc, Xc, Mb⟩, A20, H⟩ := bs_.mp H
 (try dsimp only at H)
 have A2 := D A20
 clear A20
 have H' := D H
 clear H
 go_enter Try.func21, Try.ntmps21
 go_wp2_with (first|((with_reducible refine gate_dst (N:=1) rfl ?_);refine bx_ (N:=1) (cs:=#[I L a0_0,I L a0_1,I L a0_2,I L a0_3,Y A0_4 l0_4.length c0_4,Y A0_5 l0_5.length c0_5]) (t:=37) ?_;intro Ob hg w3 hbox hb;have n_:=an_ (below_step (pB_ HB.out) hb)<|an_ (hbox)<|an_ (bg_ hg (pB_ HB.out):w.heap.size≤Ob)<|D (bg_ hg (pB_ HB.out):w.heap.size≤Ob);clear HB;obtain ⟨HB,Oa,Uo,Xo⟩:=n_;clear hb hbox hg)|((with_reducible refine gate_dst (N:=2) rfl ?_);refine bx_ (N:=2) (cs:=#[I L 0,I L 0,I L 0,I L 0,Y none 0 0,Y none 0 0]) (t:=37) ?_;intro Mc hg w4 hbox hb;have n_:=an_ (blk_below (pk_ Oa.out) hb)<|an_ (below_step (pB_ HB.out) hb)<|an_ (hbox)<|an_ (bg_ hg (pB_ HB.out):w.heap.size≤Mc)<|an_ (bg_ hg (pB_ HB.out):w.heap.size≤Mc)<|an_ (nl_ hg (pk_ Oa.out):Ob≠Mc)<|D (by rw [hg];exact Nat.ne_of_gt (blk_lt (pk_ Oa.out)):Mc≠Ob);clear Oa HB;obtain ⟨Oa,HB,Xa,Jp,Kp,Mg,Og⟩:=n_;clear hb hbox hg;(try have:=Mg.out);(try have:=Og.out);have Mh:=cells6 Oa.out)|((with_reducible refine gate_callee (f:=42) rfl ?_);refine goesL_ (some 8) rfl rfl Try.func42 (by kernel_rfl) rfl #[.agg #[I L a0_0,I L a0_1,I L a0_2,I L a0_3,Y A0_4 l0_4.length c0_4]] rfl Z12 ?_;(with_reducible refine (impl_copyFair.calls a0_0 a0_1 a0_2 a0_3 _ _ l0_4 Ub Jc Kc Xc Mb _ ?side1 ?side2 A2.out).mono ?_);(case side1=>exact pC_ (Kd.C_below HR0_4.out HB.out));(case side2=>exact HC0_4.out);rintro e w7 ⟨Mp,rfl,ho0,hb⟩;refine ⟨_,rfl,?_⟩;have n_:=an_ (Kd.R_lower ho0 (below_size (pB_ HB.out)))<|an_ (blk_below (pk_ Oa.out) hb)<|an_ (blk_below (pk_ Xa.out) hb)<|D (below_step (pB_ HB.out) hb);clear Oa Xa HB;obtain ⟨Me,Oa,Xa,HB⟩:=n_;(try clear hb);(try clear ho0);obtain ⟨Oc,Uc,eo8⟩:=Kd.R_slice Me.out;subst eo8)|((with_reducible refine gate_dst (N:=3) rfl ?_);refine bx_ (N:=3) (cs:=#[I L 0,I L 0,I L 0,I L 0,Y none 0 0,Y none 0 0]) (t:=37) ?_;intro Jb hg w9 hbox hb;have n_:=an_ (Kd.R_below (pR_ Me.out) hb)<|an_ (blk_below (pk_ Oa.out) hb)<|an_ (blk_below (pk_ Xa.out) hb)<|an_ (below_step (pB_ HB.out) hb)<|an_ (hbox)<|an_ (bg_ hg (pB_ HB.out):w.heap.size≤Jb)<|an_ (bg_ hg (pB_ HB.out):w.heap.size≤Jb)<|an_ (nl_ hg (pk_ Oa.out):Ob≠Jb)<|an_ (ng_ hg (pk_ Oa.out):Jb≠Ob)<|an_ (nl_ hg (pk_ Xa.out):Mc≠Jb)<|D (by rw [hg];exact Nat.ne_of_gt (blk_lt (pk_ Xa.out)):Jb≠Mc);clear Me Oa Xa HB;obtain ⟨Me,Oa,Xa,HB,Ma,Op,Up,Jd,Mf,Md,Of⟩:=n_;clear hb hbox hg;(try have:=Mf.out);(try have:=Jd.out);(try have:=Of.out);(try have:=Md.out);have Mj:=cells6 Ma.out;have Mm:=cells6 Oa.out))
 go_loopg [13] k (fun kq v13 w'=>∃ (Ja:Int) (Od:List (S50)) (u372005:Value),v13=I L Ja∧Aside0 (impl_copyTree.l0 kq l0_5 (l0_5.length:Int) Ja Ub Jc Kc Xc Mb Od=some (r1,r2,r3,r4,r5,r6))∧Aside0 (kq≤k)∧Aside0 (Kd.R k57 57 w' w.heap.size (fun _=>True) (Y Oc Mb.length Uc) Mb)∧Aside0 (Kd.S k50 50 w' w.heap.size (fun k_=>some k_≠((Y Oc Mb.length Uc):Value).ownBlock) u372005 Od)∧Aside0 (w'.heap[Ob]?=some (.cells #[I L a0_0,I L a0_1,I L a0_2,I L a0_3,(Y A0_4 l0_4.length c0_4),(Y A0_5 l0_5.length c0_5)] 37 (0,0)))∧Aside0 (w'.heap[Mc]?=some (.cells #[I L 0,I L 0,I L 0,I L 0,(Y none 0 0),(Y none 0 0)] 37 (0,0)))∧Aside0 (w'.heap[Jb]?=some (.cells #[I L Ub,I L Jc,I L Kc,I L Xc,(Y Oc Mb.length Uc),u372005] 37 (0,0)))∧Aside0 (Below w.heap.size w w'))
 case atStart=>exact ⟨(0),(([]:List (S50))),(Y none 0 0),Z44,H',⟨Nat.le_refl _⟩,⟨rM_ (Kd.R_types Me.out Ma.out (by decide)) (fun _ hk=>trivial)⟩,⟨by first|exact Kd.S_nil _ _ _ _ _|exact Kd.N_nil _ _ _ _ _|exact Kd.V_nil _ _ _ _ _|exact Kd.Q_nil _ _ _ _ _|exact Kd.R_nil _ _ _ _ _⟩,⟨pP_ Oa.out⟩,⟨pP_ Xa.out⟩,⟨pP_ Ma.out⟩,⟨pB_ HB.out⟩⟩
 case round =>
  clear H'
  (try clear c1);(try clear c2);(try clear p2);(try clear c4);(try clear c5);(try clear c10);(try clear c11);(try clear Mj);(try clear Mm);(try clear Mh)
  obtain ⟨Ja, Od, u372005, rfl, HA, HK1, Xb, Kb, Oa, Xa, Ma, HB⟩ := hrel
  cases gk with
  | zero => exact absurd HA.out (by simp [impl_copyTree.l0])
  | succ k1 =>
   have H := HA.out; clear HA; simp only [impl_copyTree.l0] at H
   by_cases c14 : Ja < (l0_5.length : Int)
   ·rw [if_pos c14] at H
    have c14b0 : decide (Ja < (l0_5.length : Int)) = true := decide_eq_true c14; clear c14
    by_cases c15 : 0 ≤ Ja
    ·rw [if_pos c15] at H
     have c15b0 : decide (0 ≤ Ja) = true := decide_eq_true c15; clear c15
     by_cases c16 : Ja < (l0_5.length : Int)
     ·rw [if_pos c16] at H
      have c16b0:decide (Ja < (l0_5.length:Int))=true:=decide_eq_true c16;clear c16;obtain ⟨⟨Oe,Ue,Xe,Jf,Ke⟩,A170,H⟩:=bs_.mp H;(try dsimp only at H);have A17:=D A170;clear A170
      by_cases c18 : Od.length < 2199023255552
      ·rw [if_pos c18] at H
       have LMc18 := D c18; clear c18; obtain ⟨y381, hy381⟩ : ∃ y_ : List (S50), y_ = (Od ++ [(⟨(rd_T50 l0_5 Ja).f0, (⟨Oe, (⟨Ue, Xe, Jf⟩ : S31), Ke⟩ : S34)⟩ : S50)]) := ⟨_, rfl⟩
       replace H:(impl_copyTree.l0 k1 l0_5 (l0_5.length:Int) (wrap64 (Ja + 1)) Ub Jc Kc Xc Mb y381)=some (r1,r2,r3,r4,r5,r6):=by first|(rw [hy381];with_reducible exact H)|(have H2_:=(Option.bind_some _ _).symm.trans H;rw [hy381];with_reducible exact H2_)|(have H2_:=(Option.bind_some _ _).symm.trans H;with_reducible exact H2_)|with_reducible exact H|(rw [hy381];exact H)|exact H
       have Ny381:=D hy381;clear hy381;have H':=D H;clear H;have p372:0≤(Ja:Int):=od_ Z43;have q372:Ja < (l0_5.length:Int):=od_ Z43;obtain ⟨ad372,A372_5,c372_5,e372,hx372_0,hx372_1,hx372_2,hx372_3,hx372_4,hx372_5,hl372_5,hi372_5⟩:=at_T50 HR0_5.out Ja p372 q372;cases e372;replace hx372_0:=rc_ HB.out hx372_0;replace hx372_1:=rc_ HB.out hx372_1;replace hx372_2:=rc_ HB.out hx372_2;replace hx372_3:=rc_ HB.out hx372_3;replace hx372_4:=rc_ HB.out hx372_4;replace hx372_5:=rc_ HB.out hx372_5;have HR372_5:=D hi372_5;have HC372_5:=D hl372_5;clear hi372_5 hl372_5;replace p372:=eq_true p372;replace q372:=eq_true q372
       try go_wp2_with (first|((with_reducible refine gate_dst (N:=5) rfl ?_);refine bx_ (N:=5) (cs:=#[I L 0,I L 0,I L 0,I L 0,I L 0,Y none 0 0]) (t:=50) ?_;intro Ka hg w19 hbox hb;have n_:=an_ (Kd.R_below (pR_ Xb.out) hb)<|an_ (Kd.S_below (Kd.S_elderB (pS_ Kb.out) Ka (Nat.le_of_eq hg.symm)) hb)<|an_ (blk_below (pk_ Oa.out) hb)<|an_ (blk_below (pk_ Xa.out) hb)<|an_ (blk_below (pk_ Ma.out) hb)<|an_ (below_step (pB_ HB.out) hb)<|an_ (hbox)<|an_ (bg_ hg (pB_ HB.out):w.heap.size≤Ka)<|an_ (bg_ hg (pB_ HB.out):w.heap.size≤Ka)<|an_ (nl_ hg (pk_ Oa.out):Ob≠Ka)<|an_ (ng_ hg (pk_ Oa.out):Ka≠Ob)<|an_ (nl_ hg (pk_ Xa.out):Mc≠Ka)<|an_ (ng_ hg (pk_ Xa.out):Ka≠Mc)<|an_ (nl_ hg (pk_ Ma.out):Jb≠Ka)<|D (by rw [hg];exact Nat.ne_of_gt (blk_lt (pk_ Ma.out)):Ka≠Jb);clear Xb Kb Oa Xa Ma HB;obtain ⟨Xb,Kb,Oa,Xa,Ma,HB,Ua,Xp,Jq,Xd,Mo,Je,Oo,Ud,Ug⟩:=n_;clear hb hbox hg;(try have:=Mo.out);(try have:=Xd.out);(try have:=Oo.out);(try have:=Je.out);(try have:=Ug.out);(try have:=Ud.out);have Kq:=cells6 Ua.out))
       have n0_:Aside0 (Kd.R k57 57 ((((((w19.setCell ⟨Ka,0,none⟩ (I L ((rd_T50 l0_5 Ja).f0))).setCell ⟨Ka,1,none⟩ (I L ((rd_T50 l0_5 Ja).f1.f0))).setCell ⟨Ka,2,none⟩ (I L ((rd_T50 l0_5 Ja).f1.f1.f0))).setCell ⟨Ka,3,none⟩ (I L ((rd_T50 l0_5 Ja).f1.f1.f1))).setCell ⟨Ka,4,none⟩ (I L ((rd_T50 l0_5 Ja).f1.f1.f2))).setCell ⟨Ka,5,none⟩ (Y A372_5 ((rd_T50 l0_5 Ja).f1.f2).length c372_5)) w.heap.size (fun _=>True) (Y Oc Mb.length Uc) Mb):=⟨rM_ (Kd.R_types Xb.out Ua.out (by decide)) (fun _ hk=>trivial)⟩;have n1_:Aside0 (Kd.S k50 50 ((((((w19.setCell ⟨Ka,0,none⟩ (I L ((rd_T50 l0_5 Ja).f0))).setCell ⟨Ka,1,none⟩ (I L ((rd_T50 l0_5 Ja).f1.f0))).setCell ⟨Ka,2,none⟩ (I L ((rd_T50 l0_5 Ja).f1.f1.f0))).setCell ⟨Ka,3,none⟩ (I L ((rd_T50 l0_5 Ja).f1.f1.f1))).setCell ⟨Ka,4,none⟩ (I L ((rd_T50 l0_5 Ja).f1.f1.f2))).setCell ⟨Ka,5,none⟩ (Y A372_5 ((rd_T50 l0_5 Ja).f1.f2).length c372_5)) w.heap.size (fun k_=>some k_≠(Y Oc Mb.length Uc:Value).ownBlock∧k_≠Ka) u372005 Od):=⟨sM_ (Kd.S_mono Kb.out (fun k_ hk=>(⟨hk,hk.2⟩:_∧k_≠Ka))) (fun _ hk=>⟨hk.1.1,hk.1.2⟩)⟩;have n2_:Aside0 (((((((w19.setCell ⟨Ka,0,none⟩ (I L ((rd_T50 l0_5 Ja).f0))).setCell ⟨Ka,1,none⟩ (I L ((rd_T50 l0_5 Ja).f1.f0))).setCell ⟨Ka,2,none⟩ (I L ((rd_T50 l0_5 Ja).f1.f1.f0))).setCell ⟨Ka,3,none⟩ (I L ((rd_T50 l0_5 Ja).f1.f1.f1))).setCell ⟨Ka,4,none⟩ (I L ((rd_T50 l0_5 Ja).f1.f1.f2))).setCell ⟨Ka,5,none⟩ (Y A372_5 ((rd_T50 l0_5 Ja).f1.f2).length c372_5)).heap[Ob]?=some (.cells #[I L a0_0,I L a0_1,I L a0_2,I L a0_3,Y A0_4 l0_4.length c0_4,Y (some ad372) l0_5.length c0_5] 37 (0,0))):=⟨pP_ Oa.out⟩;have n3_:Aside0 (((((((w19.setCell ⟨Ka,0,none⟩ (I L ((rd_T50 l0_5 Ja).f0))).setCell ⟨Ka,1,none⟩ (I L ((rd_T50 l0_5 Ja).f1.f0))).setCell ⟨Ka,2,none⟩ (I L ((rd_T50 l0_5 Ja).f1.f1.f0))).setCell ⟨Ka,3,none⟩ (I L ((rd_T50 l0_5 Ja).f1.f1.f1))).setCell ⟨Ka,4,none⟩ (I L ((rd_T50 l0_5 Ja).f1.f1.f2))).setCell ⟨Ka,5,none⟩ (Y A372_5 ((rd_T50 l0_5 Ja).f1.f2).length c372_5)).heap[Mc]?=some (.cells #[I L 0,I L 0,I L 0,I L 0,Y none 0 0,Y none 0 0] 37 (0,0))):=⟨pP_ Xa.out⟩;have n4_:Aside0 (((((((w19.setCell ⟨Ka,0,none⟩ (I L ((rd_T50 l0_5 Ja).f0))).setCell ⟨Ka,1,none⟩ (I L ((rd_T50 l0_5 Ja).f1.f0))).setCell ⟨Ka,2,none⟩ (I L ((rd_T50 l0_5 Ja).f1.f1.f0))).setCell ⟨Ka,3,none⟩ (I L ((rd_T50 l0_5 Ja).f1.f1.f1))).setCell ⟨Ka,4,none⟩ (I L ((rd_T50 l0_5 Ja).f1.f1.f2))).setCell ⟨Ka,5,none⟩ (Y A372_5 ((rd_T50 l0_5 Ja).f1.f2).length c372_5)).heap[Jb]?=some (.cells #[I L Ub,I L Jc,I L Kc,I L Xc,Y Oc Mb.length Uc,u372005] 37 (0,0))):=⟨pP_ Ma.out⟩
       have n5_:Aside0 (((((((w19.setCell ⟨Ka,0,none⟩ (I L ((rd_T50 l0_5 Ja).f0))).setCell ⟨Ka,1,none⟩ (I L ((rd_T50 l0_5 Ja).f1.f0))).setCell ⟨Ka,2,none⟩ (I L ((rd_T50 l0_5 Ja).f1.f1.f0))).setCell ⟨Ka,3,none⟩ (I L ((rd_T50 l0_5 Ja).f1.f1.f1))).setCell ⟨Ka,4,none⟩ (I L ((rd_T50 l0_5 Ja).f1.f1.f2))).setCell ⟨Ka,5,none⟩ (Y A372_5 ((rd_T50 l0_5 Ja).f1.f2).length c372_5)).heap[Ka]?=some (.cells #[I L ((rd_T50 l0_5 Ja).f0),I L ((rd_T50 l0_5 Ja).f1.f0),I L ((rd_T50 l0_5 Ja).f1.f1.f0),I L ((rd_T50 l0_5 Ja).f1.f1.f1),I L ((rd_T50 l0_5 Ja).f1.f1.f2),Y A372_5 ((rd_T50 l0_5 Ja).f1.f2).length c372_5] 50 (0,0))):=⟨pP_ Ua.out⟩;have n6_:Aside0 (Below w.heap.size w ((((((w19.setCell ⟨Ka,0,none⟩ (I L ((rd_T50 l0_5 Ja).f0))).setCell ⟨Ka,1,none⟩ (I L ((rd_T50 l0_5 Ja).f1.f0))).setCell ⟨Ka,2,none⟩ (I L ((rd_T50 l0_5 Ja).f1.f1.f0))).setCell ⟨Ka,3,none⟩ (I L ((rd_T50 l0_5 Ja).f1.f1.f1))).setCell ⟨Ka,4,none⟩ (I L ((rd_T50 l0_5 Ja).f1.f1.f2))).setCell ⟨Ka,5,none⟩ (Y A372_5 ((rd_T50 l0_5 Ja).f1.f2).length c372_5))):=⟨pB_ HB.out⟩;(try clear Xb);(try clear Kb);(try clear Oa);(try clear Xa);(try clear Ma);(try clear Ua);(try clear HB);generalize ((((((w19.setCell ⟨Ka,0,none⟩ (I L ((rd_T50 l0_5 Ja).f0))).setCell ⟨Ka,1,none⟩ (I L ((rd_T50 l0_5 Ja).f1.f0))).setCell ⟨Ka,2,none⟩ (I L ((rd_T50 l0_5 Ja).f1.f1.f0))).setCell ⟨Ka,3,none⟩ (I L ((rd_T50 l0_5 Ja).f1.f1.f1))).setCell ⟨Ka,4,none⟩ (I L ((rd_T50 l0_5 Ja).f1.f1.f2))).setCell ⟨Ka,5,none⟩ (Y A372_5 ((rd_T50 l0_5 Ja).f1.f2).length c372_5))=w24 at n0_ n1_ n2_ n3_ n4_ n5_ n6_ ⊢;have Xb:=n0_;have Kb:=n1_;have Oa:=n2_;have Xa:=n3_;have Ma:=n4_;have Ua:=n5_;have HB:=n6_;clear n0_ n1_ n2_ n3_ n4_ n5_ n6_
       have n_:=an_ (Kd.R_drew Xb.out)<|an_ (Kd.S_drew Kb.out)<|an_ (blk_drew Oa.out)<|an_ (blk_drew Xa.out)<|an_ (blk_drew Ma.out)<|an_ (blk_drew Ua.out)<|D (below_drew1 HB.out)
       clear Xb Kb Oa Xa Ma Ua HB;obtain ⟨Xb,Kb,Oa,Xa,Ma,Ua,HB⟩:=n_;refine start_ (n:=12) (S:=fun w'=>w'.cell? ⟨Jb,0,none⟩=some (I L Ub)∧w'.cell? ⟨Jb,1,none⟩=some (I L Jc)∧w'.cell? ⟨Jb,2,none⟩=some (I L Kc)∧w'.cell? ⟨Jb,3,none⟩=some (I L Xc)∧w'.cell? ⟨Jb,4,none⟩=some (Y Oc Mb.length Uc)∧w'.cell? ⟨Jb,5,none⟩=some (u372005)∧w'.cell? ⟨Ka,0,none⟩=some (I L ((rd_T50 l0_5 Ja).f0))∧w'.cell? ⟨Ka,1,none⟩=some (I L ((rd_T50 l0_5 Ja).f1.f0))∧w'.cell? ⟨Ka,2,none⟩=some (I L ((rd_T50 l0_5 Ja).f1.f1.f0))∧w'.cell? ⟨Ka,3,none⟩=some (I L ((rd_T50 l0_5 Ja).f1.f1.f1))∧w'.cell? ⟨Ka,4,none⟩=some (I L ((rd_T50 l0_5 Ja).f1.f1.f2))∧w'.cell? ⟨Ka,5,none⟩=some (Y A372_5 ((rd_T50 l0_5 Ja).f1.f2).length c372_5)) (ds:=[11]) (bz 12 0) (by kernel_rfl) rfl (by kernel_rfl) (bk6_ Ma.out (be6_ Ua.out)) (fun hHeld=>?_);refine with_tabW impl_copyTree.tab5 impl_copyTree.bits5 (fun HT_ HW_=>?_);generalize w24.drew=w25 at Xb Kb Oa Xa Ma Ua HB hHeld ⊢;refine pb_ 0 ?_;refine pb_ 2 ?_;refine pb_ 4 ?_;refine tb_ 1 rfl rfl hHeld Z38 ?_;refine tb_ 3 rfl rfl hHeld Z38 ?_;refine tb_ 5 rfl rfl hHeld Z38 ?_;refine oa_ 6 23 12 127 HT_ (fun K hK=>?_);refine goes_ Try.func42 (by kernel_rfl) rfl #[.agg #[I L ((rd_T50 l0_5 Ja).f1.f0),I L ((rd_T50 l0_5 Ja).f1.f1.f0),I L ((rd_T50 l0_5 Ja).f1.f1.f1),I L ((rd_T50 l0_5 Ja).f1.f1.f2),Y A372_5 ((rd_T50 l0_5 Ja).f1.f2).length c372_5]] (by rfl) rfl rfl Z12 ?_;with_reducible refine (impl_copyFair.calls ((rd_T50 l0_5 Ja).f1.f0) ((rd_T50 l0_5 Ja).f1.f1.f0) ((rd_T50 l0_5 Ja).f1.f1.f1) ((rd_T50 l0_5 Ja).f1.f1.f2) _ _ ((rd_T50 l0_5 Ja).f1.f2) Oe Ue Xe Jf Ke _ ?side1 ?side2 A17.out).mono ?_
       (case side1 => exact pC_ (Kd.C_below HR372_5.out HB.out)); (case side2 => exact HC372_5.out); rintro e w26 ⟨Ks, rfl, ho0, hb⟩; refine ⟨_, rfl, ?_⟩
       have n_:=an_ (Kd.R_elder' (pR_ Xb.out) (Kd.R_base ho0) hb)<|an_ (Kd.S_elder' (pS_ Kb.out) (Kd.R_base ho0) hb)<|an_ (Kd.R_lower (nw_ ho0 (pR_ Xb.out)) (below_size (pB_ HB.out)))<|an_ (blk_below (pk_ Oa.out) hb)<|an_ (blk_below (pk_ Xa.out) hb)<|an_ (blk_below (pk_ Ma.out) hb)<|an_ (blk_below (pk_ Ua.out) hb)<|D (below_step (pB_ HB.out) hb)
       clear Xb Kb Oa Xa Ma Ua HB;obtain ⟨Xb,Kb,Kf,Oa,Xa,Ma,Ua,HB⟩:=n_;obtain ⟨Xg,Jh,eo27⟩:=Kd.R_slice Kf.out;(first|subst eo27|obtain ⟨rfl,rfl⟩:=sl_inj eo27);refine hK.out _ _ (bk6_ Ma.out (be6_ Ua.out)) (fun hHeld=>?_);clear hK K;refine nx_ (N:=some 23) ?_;refine pb_ 7 ?_;refine oa_ 8 25 12 511 HT_ (fun K hK=>?_);refine value_ (w1:=?_) (v:=?_) (by rfl) rfl ?_ ?_;rotate_left 2
       ·go_simp
        constructor
        ·rfl
        ·rfl
       refine hK.out _ _ ⟨(blk_cell (blk_alloc Ma.out _) 0).trans rfl,(blk_cell (blk_alloc Ma.out _) 1).trans rfl,(blk_cell (blk_alloc Ma.out _) 2).trans rfl,(blk_cell (blk_alloc Ma.out _) 3).trans rfl,(blk_cell (blk_alloc Ma.out _) 4).trans rfl,(blk_cell (blk_alloc Ma.out _) 5).trans rfl,(blk_cell (blk_alloc Ua.out _) 0).trans rfl,(blk_cell (blk_alloc Ua.out _) 1).trans rfl,(blk_cell (blk_alloc Ua.out _) 2).trans rfl,(blk_cell (blk_alloc Ua.out _) 3).trans rfl,(blk_cell (blk_alloc Ua.out _) 4).trans rfl,(blk_cell (blk_alloc Ua.out _) 5).trans rfl⟩ (fun hHeld=>?_);clear hK K;refine nx_ (N:=some 25) ?_;refine oa_ 9 26 12 1023 HT_ (fun K hK=>?_);refine Kd.S_append_step k50 (w0:=w) w.heap.size (by rfl) (.tmp 18) (.tmp 25) 35 50 (.agg #[(I L 0),(I L 0),(I L 0),(I L 0),(I L 0),(Y none 0 0)]) 64 rfl Try.underlying35 info50 rfl (by decide) (by omega) u372005 Od (⟨(rd_T50 l0_5 Ja).f0,(⟨Oe,(⟨Ue,Xe,Jf⟩:S31),Ke⟩:S34)⟩:S50) [I L ((rd_T50 l0_5 Ja).f0),I L Oe,I L Ue,I L Xe,I L Jf,Y Xg Ke.length Jh] (fun k_=>some k_≠(Y Oc Mb.length Uc:Value).ownBlock∧k_≠Ka) (fun k_=>some k_=(Y Xg Ke.length Jh:Value).ownBlock) rfl rfl ?aP (fun k_ hk_=>((Kd.R_mono (ok':=fun k_=>((fun k_=>some k_≠(Y Oc Mb.length Uc:Value).ownBlock∧k_≠Ka)) k_∧some k_≠(u372005:Value).ownBlock) (Kd.R_types (Kd.R_apart' (Kf.out) (Kd.S_typed Kb.out) (by decide)) Ua.out (by decide)) (fun k_ hk=>⟨⟨hk.1.1.2,hk.2⟩,hk.1.2⟩))).1 k_ hk_.symm) ?aF ?aO ?aB ?aS ?aL ?_;(case aP=>exact k50_mkM _ _ _ (⟨(rd_T50 l0_5 Ja).f0,(⟨Oe,(⟨Ue,Xe,Jf⟩:S31),Ke⟩:S34)⟩:S50) (Kd.R_mono (Kd.R_tight rfl (Kd.R_mono (ok':=fun k_=>((fun k_=>some k_≠(Y Oc Mb.length Uc:Value).ownBlock∧k_≠Ka)) k_∧some k_≠(u372005:Value).ownBlock) (Kd.R_types (Kd.R_apart' (Kf.out) (Kd.S_typed Kb.out) (by decide)) Ua.out (by decide)) (fun k_ hk=>⟨⟨hk.1.1.2,hk.2⟩,hk.1.2⟩))) (fun _ h_=>h_)));(case aB=>exact (pB_ HB.out));(case aF=>exact (fun k_ hk=>⟨Kd.fresh' (Kd.R_lt (pR_ Xb.out)) k_ hk,Kd.freshB (pk_ Ua.out) k_ hk⟩));(case aO=>exact (pS_ (Kd.S_mono Kb.out (fun k_ hk=>⟨⟨hk.1.1,hk.1.2⟩,fun e_=>hk.2 e_⟩))));(case aS=>exact (below_size (pB_ HB.out)));(case aL=>have:=LMc18.out;omega);intro Ms w28 ho hb hg hat;rw [← Ny381.out] at ho
       have n_:=an_ (Kd.R_over' (pR_ Xb.out) (Kd.S_typed (pS_ Kb.out)) (by decide) hg)<|an_ (blk_grown (pk_ Oa.out) hg (Kd.S_ne Kb.out Oa.out (by decide)))<|an_ (blk_grown (pk_ Xa.out) hg (Kd.S_ne Kb.out Xa.out (by decide)))<|an_ (blk_grown (pk_ Ma.out) hg (Kd.S_ne Kb.out Ma.out (by decide)))<|an_ (blk_grown (pk_ Ua.out) hg (Kd.S_away Kb.out (fun _ hk=>hk.1.2)))<|an_ (hb)<|D (ho)
       clear Xb Oa Xa Ma Ua HB Kb Kf;obtain ⟨Xb,Oa,Xa,Ma,Ua,HB,Kh⟩:=n_;clear ho hb hg hat;obtain ⟨Uf,Xf,eo29⟩:=Kd.S_slice Kh.out;(first|subst eo29|obtain ⟨rfl,rfl⟩:=sl_inj eo29);refine hK.out _ _ (bk6_ Ma.out (be6_ Ua.out)) (fun hHeld=>?_);clear hK K;refine nx_ (N:=some 26) ?_;refine pb_ 10 ?_;refine last_ (i:=11) (N:=none) (bz 12 4095) rfl rfl (one_of HT_.out (by kernel_rfl)) (by decide) (fun K hK=>?_);have hs30:w28.cell? ⟨Jb,5,none⟩=some (u372005):=bc_ Ma.out 5;have hfs30:=blk_frozen Ma.out 5;have hns30_0:=Jd.out;have hns30_1:=Md.out;have hns30_3:=Ug.out;have hms30_0:=Mf.out;have hms30_1:=Of.out;have hms30_3:=Ud.out;refine skip_ (w1:=?_) (by rfl) rfl ?_ ?_;rotate_left
       ·go_simp
        rfl
       refine hK.out _ _ ?_; clear hK K; refine done_ (done_of HT_.out (by kernel_rfl)) ?_
       try go_wp2
       go_roundg k1
       case measure => have := HK1.out; omega
       case rel=>exact ⟨(wrap64 (Ja + 1)),(y381),(Y Uf y381.length Xf),Z44,H',⟨by have:=HK1.out;omega⟩,⟨rM_ (Kd.R_types Xb.out Ma.out (by decide)) (fun _ hk=>trivial)⟩,⟨sM_ (Kd.S_types Kh.out Ma.out (by decide)) (fun _ hk=>hk.1.1)⟩,⟨pP_ Oa.out⟩,⟨pP_ Xa.out⟩,⟨pP_ Ma.out⟩,⟨pB_ HB.out⟩⟩
      ·rw [if_neg c18] at H
       exact absurd H (by simp)
     ·rw [if_neg c16] at H
      exact absurd H (by simp)
    ·rw [if_neg c15] at H
     exact absurd H (by simp)
   ·rw [if_neg c14] at H
    have c14b0:decide (Ja < (l0_5.length:Int))=false:=decide_eq_false c14;clear c14;simp only [Option.some.injEq,Prod.mk.injEq] at H;obtain ⟨rfl,rfl,rfl,rfl,rfl,rfl⟩:=H;(try have:=Mf.out);(try have:=Jd.out);(try have:=Of.out);(try have:=Md.out);have Os:=cells6 Ma.out;(try have:=Og.out);(try have:=Mg.out);have Ov:=cells6 Xa.out;obtain ⟨Jg,Kg,eo36⟩:=Kd.S_slice Kb.out;subst eo36
    go_wp2
    refine bodyPost_ret (results_cell_row rfl _ _ Mc 37 #[I L Ub,I L Jc,I L Kc,I L Xc,Y Oc Mb.length Uc,Y Jg Od.length Kg] (0,0) _ rfl (by exact pP_ Xa.out) Try.underlying37 rfl (by kernel_rfl)) rfl ?_;exact ⟨_,_,er_,by (with_reducible repeat (first|apply Kd.R_alloc|apply Kd.R_drewN|apply Kd.R_drew));exact Kd.R_mono (fr_ (fr_ (fr_ (fr_ (fr_ (fr_ (Kd.R_types Xb.out Xa.out (by decide)) 0 (I L Ub)) 1 (I L Jc)) 2 (I L Kc)) 3 (I L Xc)) 4 (Y Oc Mb.length Uc)) 5 (Y Jg Od.length Kg)) (fun _ hk=>trivial),by (with_reducible repeat (first|apply Kd.S_alloc|apply Kd.S_drewN|apply Kd.S_drew));exact Kd.S_mono (Kd.S_far (p:=⟨Mc,5,none⟩) (Kd.S_far (p:=⟨Mc,4,none⟩) (Kd.S_far (p:=⟨Mc,3,none⟩) (Kd.S_far (p:=⟨Mc,2,none⟩) (Kd.S_far (p:=⟨Mc,1,none⟩) (Kd.S_far (p:=⟨Mc,0,none⟩) (Kd.S_types Kb.out Xa.out (by decide)) (fun _ hk=>hk.2) (I L Ub)) (fun _ hk=>hk.2) (I L Jc)) (fun _ hk=>hk.2) (I L Kc)) (fun _ hk=>hk.2) (I L Xc)) (fun _ hk=>hk.2) (Y Oc Mb.length Uc)) (fun _ hk=>hk.2) (Y Jg Od.length Kg)) (fun _ hk=>hk.1),pB_ HB.out⟩

/-! ### slices.Delete of one element: function 22, by a walk of its own -/
set_option maxHeartbeats 8000000 in
set_option maxRecDepth 100000 in
theorem del22_ {w0 w : World} {base n c g : Nat} {ok : Nat → Prop} {xs : List S57} {i j : Int} (HO : Kd.R k57 57 w base ok (Y (some ⟨g, 0, none⟩) n c) xs) (HB0 : Below base w0 w) (hsz : base ≤ w.heap.size) (hi : 0 ≤ i) (hin : i < (n : Int)) (hj : j = wrap64 (i + 1)) :
  Calls Try.prog 22 #[Y (some ⟨g,0,none⟩) n c,I L i,I L j] w fun e w'=>e=.returned (Y (some ⟨g,0,none⟩) (n - 1) c)∧Kd.R k57 57 w' base ok (Y (some ⟨g,0,none⟩) (n - 1) c) (xs.eraseIdx i.toNat)∧w.grownBy w' (some g)∧Below base w0 w':=by
 have hbl := (Kd.R_reads' HO).2.2.2.1
 have hnx := (Kd.R_reads' HO).1
 have hj' : j = i + 1 := by rw [hj]; unfold wrap64; omega
 subst hj'
 clear hj hbl hnx
 obtain ⟨k, rfl⟩ : ∃ k : Nat, i = k := ⟨i.toNat, by omega⟩
 have h1 : k < n := by omega
 rw [Int.toNat_natCast]
 clear hi hin
 have hnc : n ≤ c := (Kd.R_reads' HO).2.1
 have hu32 := Try.underlying32
 have hu57 := Try.underlying57
 have HH := D HO
 clear HO
 have hkc : k ≤ c := by omega
 have hjc : k + 1 ≤ c := by omega
 have hb0 : (0 : Int) ≤ (k : Int) + 1 := by omega
 have hb1 : (k : Int) + 1 ≤ (n : Int) := by omega
 have HB := D HB0
 clear HB0
 go_enter Try.func22, Try.ntmps22
 go_wp2_with fail
 go_region_law ((refine Kd.R_delete_step k57 (w0:=w0) base rfl (.tmp 22) (.tmp 25) 32 57 rfl Try.underlying32 (by kernel_rfl) (g:=g) (n:=n) (c:=c) (k:=k) rfl rfl (by simp only [Option.map_some,add_plain,show (k57).sz=6 from rfl]) (by first|rfl|omega) (Kd.R_drew HH.out) h1 (below_drew1 HB.out) hsz ?_;intro W1 HR1 HB1 HG1))
 obtain ⟨cur, hcur, hcs⟩ := R_blk HR1
 have hcs6 : cur.size = c * 6 := hcs
 have hcl:∀ ty,(Builtin.clear_ #[32] ty #[Y (some ⟨g,(n - 1) * 6,none⟩) 1 (c - (n - 1))]).run Try.prog W1=.ok (.tuple #[]) (W1.setCells g ((n - 1) * 6) [I L 0,I L 0,.bool false,I L 0,I L 0,I L 0]) :=
  fun ty=>clr1_run (z:=(.agg #[I L 0,I L 0,.bool false,I L 0,I L 0,I L 0])) (e':=57) (cur:=cur) hu32 (fun w=>by rfl) (by simp [Value.cells,Value.oneCell']) hcur (by simp [Value.cells];omega)
 obtain ⟨HR2, HG2⟩ := R_tail k57 (o := (n - 1) * 6) (zs := [I L 0, I L 0, .bool false, I L 0, I L 0, I L 0]) HR1 (Nat.le_refl _) (by simp; show _ ≤ c * 6; omega)
 have HR3 := D HR2
 have HG3 := D (World.grownBy.trans (World.grownBy.trans (show w.grownBy w.drew (some g) from ⟨rfl, rfl, rfl, Nat.le_refl _, fun _ _ _ => rfl⟩) HG1) HG2 : w.grownBy _ (some g))
 have hgb : base ≤ g := Kd.R_base HR2 g (by simp [Value.ownBlock])
 have HB2 := D (HB1.grown HG2 (by have := HG1.size; have h_ : w.drew.heap.size = w.heap.size := rfl; omega) (fun k hk => by injection hk with hk; omega))
 clear HR1 HR2 HG1 HG2 hcur hcs hcs6 HB1 hgb
 have hn1 : n - (n - 1) = 1 := by omega
 have hne : ¬ (c = n - 1) := by omega
 have hb2 : (0 : Int) ≤ ((n - 1 : Nat) : Int) := by omega
 have hb3 : ((n - 1 : Nat) : Int) ≤ (n : Int) := by omega
 have hb4 : n - 1 ≤ n := by omega
 go_wp2
 all_goals (go_ret; first | exact ⟨rfl, HR3.out, HG3.out, HB2.out⟩ | (subst_vars; exact ⟨rfl, HR3.out, HG3.out, HB2.out⟩))

/-! ### slices.Delete of one element: function 23, by a walk of its own -/
set_option maxHeartbeats 8000000 in
set_option maxRecDepth 100000 in
theorem del23_ {w0 w : World} {base n c g : Nat} {ok : Nat → Prop} {xs : List S50} {i j : Int} (HO : Kd.S k50 50 w base ok (Y (some ⟨g, 0, none⟩) n c) xs) (HB0 : Below base w0 w) (hsz : base ≤ w.heap.size) (hi : 0 ≤ i) (hin : i < (n : Int)) (hj : j = wrap64 (i + 1)) :
  Calls Try.prog 23 #[Y (some ⟨g,0,none⟩) n c,I L i,I L j] w fun e w'=>e=.returned (Y (some ⟨g,0,none⟩) (n - 1) c)∧Kd.S k50 50 w' base ok (Y (some ⟨g,0,none⟩) (n - 1) c) (xs.eraseIdx i.toNat)∧w.grownBy w' (some g)∧Below base w0 w':=by
 have hbl := (Kd.S_reads' HO).2.2.2.1
 have hnx := (Kd.S_reads' HO).1
 have hj' : j = i + 1 := by rw [hj]; unfold wrap64; omega
 subst hj'
 clear hj hbl hnx
 obtain ⟨k, rfl⟩ : ∃ k : Nat, i = k := ⟨i.toNat, by omega⟩
 have h1 : k < n := by omega
 rw [Int.toNat_natCast]
 clear hi hin
 have hnc : n ≤ c := (Kd.S_reads' HO).2.1
 have hu35 := Try.underlying35
 have hu50 := Try.underlying50
 have HH := D HO
 clear HO
 have hkc : k ≤ c := by omega
 have hjc : k + 1 ≤ c := by omega
 have hb0 : (0 : Int) ≤ (k : Int) + 1 := by omega
 have hb1 : (k : Int) + 1 ≤ (n : Int) := by omega
 have HB := D HB0
 clear HB0
 go_enter Try.func23, Try.ntmps23
 go_wp2_with fail
 go_region_law ((refine Kd.S_delete_step k50 (w0:=w0) base rfl (.tmp 22) (.tmp 25) 35 50 rfl Try.underlying35 (by kernel_rfl) (g:=g) (n:=n) (c:=c) (k:=k) rfl rfl (by simp only [Option.map_some,add_plain,show (k50).sz=6 from rfl]) (by first|rfl|omega) (Kd.S_drew HH.out) h1 (below_drew1 HB.out) hsz ?_;intro W1 HR1 HB1 HG1))
 obtain ⟨cur, hcur, hcs⟩ := R_blk (Kd.S_R HR1)
 have hcs6 : cur.size = c * 6 := hcs
 have hcl:∀ ty,(Builtin.clear_ #[35] ty #[Y (some ⟨g,(n - 1) * 6,none⟩) 1 (c - (n - 1))]).run Try.prog W1=.ok (.tuple #[]) (W1.setCells g ((n - 1) * 6) [I L 0,I L 0,I L 0,I L 0,I L 0,Y none 0 0]) :=
  fun ty=>clr1_run (z:=(.agg #[I L 0,I L 0,I L 0,I L 0,I L 0,Y none 0 0])) (e':=50) (cur:=cur) hu35 (fun w=>by rfl) (by simp [Value.cells,Value.oneCell']) hcur (by simp [Value.cells];omega)
 obtain ⟨HR2, HG2⟩ := S_tail k50 (o := (n - 1) * 6) (zs := [I L 0, I L 0, I L 0, I L 0, I L 0, Y none 0 0]) HR1 (Nat.le_refl _) (by simp; show _ ≤ c * 6; omega)
 have HR3 := D HR2
 have HG3 := D (World.grownBy.trans (World.grownBy.trans (show w.grownBy w.drew (some g) from ⟨rfl, rfl, rfl, Nat.le_refl _, fun _ _ _ => rfl⟩) HG1) HG2 : w.grownBy _ (some g))
 have hgb : base ≤ g := Kd.S_base HR2 g (by simp [Value.ownBlock])
 have HB2 := D (HB1.grown HG2 (by have := HG1.size; have h_ : w.drew.heap.size = w.heap.size := rfl; omega) (fun k hk => by injection hk with hk; omega))
 clear HR1 HR2 HG1 HG2 hcur hcs hcs6 HB1 hgb
 have hn1 : n - (n - 1) = 1 := by omega
 have hne : ¬ (c = n - 1) := by omega
 have hb2 : (0 : Int) ≤ ((n - 1 : Nat) : Int) := by omega
 have hb3 : ((n - 1 : Nat) : Int) ≤ (n : Int) := by omega
 have hb4 : n - 1 ≤ n := by omega
 go_wp2
 all_goals (go_ret; first | exact ⟨rfl, HR3.out, HG3.out, HB2.out⟩ | (subst_vars; exact ⟨rfl, HR3.out, HG3.out, HB2.out⟩))

/-! ### impl_TreeCut: function 7 -/
def impl_TreeCut.f (k : Nat) (a0_0 a0_1 a0_2 a0_3 : Int) (l0_4 : List (S57)) (l0_5 : List (S50)) (a1 : Int) : Option (Int × Int × Int × Int × (List (S57)) × (List (S50)) × Int) := (impl_Fair_at.f k a0_0 a0_1 a0_2 a0_3 l0_4 a1).bind fun t386 => ((impl_TreeOk.f k a0_0 a0_1 a0_2 a0_3 l0_4 l0_5).bind fun t387 => (if t387 = true then (if t386 < 0 then (some (0, 0, 0, 0, ([] : List (S57)), ([] : List (S50)), 4)) else ((impl_copyTree.f k a0_0 a0_1 a0_2 a0_3 l0_4 l0_5).bind fun bt388 => (if 0 ≤ t386 then (if t386 < (bt388.2.2.2.2.1.length : Int) then (if t386 < (bt388.2.2.2.2.2.length : Int) then (some (bt388.1, bt388.2.1, bt388.2.2.1, bt388.2.2.2.1, (bt388.2.2.2.2.1.eraseIdx (t386 : Int).toNat), (bt388.2.2.2.2.2.eraseIdx (t386 : Int).toNat), 0)) else (none)) else (none)) else (none)))) else (some (0, 0, 0, 0, ([] : List (S57)), ([] : List (S50)), 1))))
set_option maxHeartbeats 8000000 in
set_option maxRecDepth 100000 in
theorem impl_TreeCut.calls (k : Nat) (a0_0 a0_1 a0_2 a0_3 : Int) (A0_4 : Option Addr) (c0_4 : Nat) (l0_4 : List (S57)) (A0_5 : Option Addr) (c0_5 : Nat) (l0_5 : List (S50)) (a1 r1 r2 r3 r4 : Int) (r5 : List (S57)) (r6 : List (S50)) (r7 : Int) (w : World) (hr0_4 : Kd.C k57 w A0_4 l0_4.length l0_4) (hc0_4 : l0_4.length ≤ c0_4) (hr0_5 : Kd.C k50 w A0_5 l0_5.length l0_5) (hc0_5 : l0_5.length ≤ c0_5) (h : impl_TreeCut.f k a0_0 a0_1 a0_2 a0_3 l0_4 l0_5 a1 = some (r1, r2, r3, r4, r5, r6, r7)) :
  Calls Try.prog 7 #[.agg #[I L a0_0,I L a0_1,I L a0_2,I L a0_3,Y A0_4 l0_4.length c0_4,Y A0_5 l0_5.length c0_5],I L a1] w fun e w'=>∃ v4_ v5_:Value,e=.returned (.tuple #[.agg #[I L r1,I L r2,I L r3,I L r4,v4_,v5_],I L r7])∧Kd.R k57 57 w' w.heap.size (fun _=>True) v4_ r5∧Kd.S k50 50 w' w.heap.size (fun k_=>some k_≠(v4_:Value).ownBlock) v5_ r6∧Below w.heap.size w w':=by
 have hu37 := Try.underlying37
 have hu34 := Try.underlying34
 have HR0_4 := D hr0_4
 have HC0_4 := D hc0_4
 clear hr0_4 hc0_4
 have HR0_5 := D hr0_5
 have HC0_5 := D hc0_5
 clear hr0_5 hc0_5
 have HB := D (Below.refl w.heap.size w)
 have H:((impl_Fair_at.f k a0_0 a0_1 a0_2 a0_3 l0_4 a1).bind fun Ua=>((impl_TreeOk.f k a0_0 a0_1 a0_2 a0_3 l0_4 l0_5).bind fun Ud=>(if Ud=true then (if Ua < 0 then (some (0,0,0,0,([]:List (S57)),([]:List (S50)),4)) else ((impl_copyTree.f k a0_0 a0_1 a0_2 a0_3 l0_4 l0_5).bind fun bt388=>(if 0≤Ua then (if Ua < (bt388.2.2.2.2.1.length:Int) then (if Ua < (bt388.2.2.2.2.2.length:Int) then (some (bt388.1,bt388.2.1,bt388.2.2.1,bt388.2.2.2.1,(bt388.2.2.2.2.1.eraseIdx (Ua:Int).toNat),(bt388.2.2.2.2.2.eraseIdx (Ua:Int).toNat),0)) else (none)) else (none)) else (none)))) else (some (0,0,0,0,([]:List (S57)),([]:List (S50)),1)))))=some (r1,r2,r3,r4,r5,r6,r7):=h
 clear h
 obtain ⟨Ua, A30, H⟩ := bs_.mp H
 (try dsimp only at H)
 have A3 := D A30
 clear A30
 obtain ⟨Ud, A40, H⟩ := bs_.mp H
 (try dsimp only at H)
 have A4 := D A40
 clear A40
 have HU5 := D H
 clear H
 go_enter Try.func7, Try.ntmps7
 go_upto_if 12 with (first|((with_reducible refine gate_dst (N:=2) rfl ?_);refine bx_ (N:=2) (cs:=#[I L a0_0,I L a0_1,I L a0_2,I L a0_3,Y A0_4 l0_4.length c0_4,Y A0_5 l0_5.length c0_5]) (t:=37) ?_;intro Kc hg w6 hbox hb;have n_:=an_ (below_step (pB_ HB.out) hb)<|an_ (hbox)<|an_ (bg_ hg (pB_ HB.out):w.heap.size≤Kc)<|D (bg_ hg (pB_ HB.out):w.heap.size≤Kc);clear HB;obtain ⟨HB,Ka,Oe,Ue⟩:=n_;clear hb hbox hg)|((with_reducible refine gate_dst (N:=4) rfl ?_);refine bx_ (N:=4) (cs:=#[I L 0,I L 0,I L 0,I L 0,Y none 0 0,Y none 0 0]) (t:=37) ?_;intro Ob hg w7 hbox hb;have n_:=an_ (blk_below (pk_ Ka.out) hb)<|an_ (below_step (pB_ HB.out) hb)<|an_ (hbox)<|an_ (bg_ hg (pB_ HB.out):w.heap.size≤Ob)<|an_ (bg_ hg (pB_ HB.out):w.heap.size≤Ob)<|an_ (nl_ hg (pk_ Ka.out):Kc≠Ob)<|D (by rw [hg];exact Nat.ne_of_gt (blk_lt (pk_ Ka.out)):Ob≠Kc);clear Ka HB;obtain ⟨Ka,HB,Oa,Xe,Jf,Xd,Je⟩:=n_;clear hb hbox hg;(try have:=Xd.out);(try have:=Je.out);have Kf:=cells6 Ka.out)|((with_reducible refine gate_callee (f:=19) rfl ?_);refine goesL_ (some 11) rfl rfl Try.func19 (by kernel_rfl) rfl #[.agg #[I L a0_0,I L a0_1,I L a0_2,I L a0_3,Y A0_4 l0_4.length c0_4],I L a1] rfl Z12 ?_;(with_reducible refine (impl_Fair_at.calls k a0_0 a0_1 a0_2 a0_3 _ _ l0_4 a1 Ua _ ?side1 ?side2 A3.out).mono ?_);(case side1=>exact pC_ (Kd.C_below HR0_4.out HB.out));(case side2=>exact HC0_4.out);rintro e w10 ⟨rfl,hb⟩;refine ⟨_,rfl,?_⟩;have n_:=an_ (blk_below (pk_ Ka.out) hb)<|an_ (blk_below (pk_ Oa.out) hb)<|D (below_step (pB_ HB.out) hb);clear Ka Oa HB;obtain ⟨Ka,Oa,HB⟩:=n_;(try clear hb);have Kh:=cells6 Ka.out)|((with_reducible refine gate_callee (f:=20) rfl ?_);refine goesL_ (some 14) rfl rfl Try.func20 (by kernel_rfl) rfl #[.agg #[I L a0_0,I L a0_1,I L a0_2,I L a0_3,Y A0_4 l0_4.length c0_4,Y A0_5 l0_5.length c0_5]] rfl Z12 ?_;(with_reducible refine (impl_TreeOk.calls k a0_0 a0_1 a0_2 a0_3 _ _ l0_4 _ _ l0_5 Ud _ ?side1 ?side2 ?side3 ?side4 A4.out).mono ?_);(case side1=>exact pC_ (Kd.C_below HR0_4.out HB.out));(case side2=>exact HC0_4.out);(case side3=>exact pC_ (Kd.C_below HR0_5.out HB.out));(case side4=>exact HC0_5.out);rintro e w12 ⟨rfl,hb⟩;refine ⟨_,rfl,?_⟩;have n_:=an_ (blk_below (pk_ Ka.out) hb)<|an_ (blk_below (pk_ Oa.out) hb)<|D (below_step (pB_ HB.out) hb);clear Ka Oa HB;obtain ⟨Ka,Oa,HB⟩:=n_;(try clear hb)))
 have H := HU5.out
 clear HU5
 by_cases c13 : Ud = true
 ·subst c13
  rw [if_pos rfl] at H
  by_cases c14 : Ua < 0
  ·rw [if_pos c14] at H
   have c14b0:decide (Ua < 0)=true:=decide_eq_true c14;clear c14;refine rw_ c14b0 ?_;simp only [Option.some.injEq,Prod.mk.injEq] at H;obtain ⟨rfl,rfl,rfl,rfl,rfl,rfl,rfl⟩:=H;(try have:=Je.out);(try have:=Xd.out);have Kj:=cells6 Oa.out
   go_wp2
   refine bodyPost_ret (results_ct rfl _ _ Ob 37 #[I L 0,I L 0,I L 0,I L 0,Y none 0 0,Y none 0 0] (0,0) _ rfl Z4 Try.underlying37 rfl (by kernel_rfl)) rfl ?_;exact ⟨_,_,er_,by first|exact Kd.R_nil _ _ _ _ _|exact Kd.N_nil _ _ _ _ _|exact Kd.V_nil _ _ _ _ _|exact Kd.Q_nil _ _ _ _ _|exact Kd.S_nil _ _ _ _ _,by first|exact Kd.S_nil _ _ _ _ _|exact Kd.N_nil _ _ _ _ _|exact Kd.V_nil _ _ _ _ _|exact Kd.Q_nil _ _ _ _ _|exact Kd.R_nil _ _ _ _ _,pB_ HB.out⟩
  ·rw [if_neg c14] at H
   have c14b0:decide (Ua < 0)=false:=decide_eq_false c14;clear c14;refine rw_ c14b0 ?_;obtain ⟨⟨Xa,Kb,Ub,Mc,Oc,Mb⟩,A170,H⟩:=bs_.mp H;(try dsimp only at H);have A17:=D A170;clear A170
   by_cases c18 : 0 ≤ Ua
   ·rw [if_pos c18] at H
    have c18b0 := eq_true c18; have c18b1 : decide (0 ≤ Ua) = true := decide_eq_true c18; clear c18
    by_cases c19 : Ua < (Oc.length : Int)
    ·rw [if_pos c19] at H
     have c19b0:=eq_true c19;have c19b1:decide (Ua < (Oc.length:Int))=true:=decide_eq_true c19;clear c19;obtain ⟨y399,hy399⟩:∃ y_:List (S57),y_=(Oc.eraseIdx (Ua:Int).toNat):=⟨_,rfl⟩
     replace H:(if Ua < (Mb.length:Int) then (some (Xa,Kb,Ub,Mc,y399,(Mb.eraseIdx (Ua:Int).toNat),0)) else (none))=some (r1,r2,r3,r4,r5,r6,r7):=by first|(rw [hy399];with_reducible exact H)|(have H2_:=(Option.bind_some _ _).symm.trans H;rw [hy399];with_reducible exact H2_)|(have H2_:=(Option.bind_some _ _).symm.trans H;with_reducible exact H2_)|with_reducible exact H|(rw [hy399];exact H)|exact H
     have Ny399 := D hy399; clear hy399
     by_cases c20 : Ua < (Mb.length : Int)
     ·rw [if_pos c20] at H
      have c20b0:=eq_true c20;have c20b1:decide (Ua < (Mb.length:Int))=true:=decide_eq_true c20;clear c20;obtain ⟨y402,hy402⟩:∃ y_:List (S50),y_=(Mb.eraseIdx (Ua:Int).toNat):=⟨_,rfl⟩
      replace H:(some (Xa,Kb,Ub,Mc,y399,y402,0))=some (r1,r2,r3,r4,r5,r6,r7):=by first|(rw [hy402];with_reducible exact H)|(have H2_:=(Option.bind_some _ _).symm.trans H;rw [hy402];with_reducible exact H2_)|(have H2_:=(Option.bind_some _ _).symm.trans H;with_reducible exact H2_)|with_reducible exact H|(rw [hy402];exact H)|exact H
      have Ny402:=D hy402;clear hy402;simp only [Option.some.injEq,Prod.mk.injEq] at H;obtain ⟨rfl,rfl,rfl,rfl,rfl,rfl,rfl⟩:=H;(try have:=Xd.out);(try have:=Je.out);have Km:=cells6 Ka.out
      go_wp2_with (first|((with_reducible refine gate_callee (f:=21) rfl ?_);refine goesL_ (some 22) rfl rfl Try.func21 (by kernel_rfl) rfl #[.agg #[I L a0_0,I L a0_1,I L a0_2,I L a0_3,Y A0_4 l0_4.length c0_4,Y A0_5 l0_5.length c0_5]] rfl Z12 ?_;(with_reducible refine (impl_copyTree.calls k a0_0 a0_1 a0_2 a0_3 _ _ l0_4 _ _ l0_5 Xa Kb Ub Mc Oc Mb _ ?side1 ?side2 ?side3 ?side4 A17.out).mono ?_);(case side1=>exact pC_ (Kd.C_below HR0_4.out HB.out));(case side2=>exact HC0_4.out);(case side3=>exact pC_ (Kd.C_below HR0_5.out HB.out));(case side4=>exact HC0_5.out);rintro e w23 ⟨Ko,Mo,rfl,ho0,ho1,hb⟩;refine ⟨_,rfl,?_⟩;have n_:=an_ (Kd.R_lower ho0 (below_size (pB_ HB.out)))<|an_ (Kd.S_lower ho1 (below_size (pB_ HB.out)))<|an_ (blk_below (pk_ Ka.out) hb)<|an_ (blk_below (pk_ Oa.out) hb)<|D (below_step (pB_ HB.out) hb);clear Ka Oa HB;obtain ⟨Jc,Xb,Ka,Oa,HB⟩:=n_;(try clear hb);(try clear ho0);(try clear ho1))|((with_reducible refine gate_dst (N:=7) rfl ?_);refine bx_ (N:=7) (cs:=#[I L 0,I L 0,I L 0,I L 0,Y none 0 0,Y none 0 0]) (t:=37) ?_;intro Ma hg w24 hbox hb;have n_:=an_ (Kd.R_below (pR_ Jc.out) hb)<|an_ (Kd.S_below (pS_ Xb.out) hb)<|an_ (blk_below (pk_ Ka.out) hb)<|an_ (blk_below (pk_ Oa.out) hb)<|an_ (below_step (pB_ HB.out) hb)<|an_ (hbox)<|an_ (bg_ hg (pB_ HB.out):w.heap.size≤Ma)<|an_ (bg_ hg (pB_ HB.out):w.heap.size≤Ma)<|an_ (nl_ hg (pk_ Ka.out):Kc≠Ma)<|an_ (ng_ hg (pk_ Ka.out):Ma≠Kc)<|an_ (nl_ hg (pk_ Oa.out):Ob≠Ma)<|D (by rw [hg];exact Nat.ne_of_gt (blk_lt (pk_ Oa.out)):Ma≠Ob);clear Jc Xb Ka Oa HB;obtain ⟨Jc,Xb,Ka,Oa,HB,Ja,Oo,Uo,Md,Ke,Jd,Me⟩:=n_;clear hb hbox hg;(try have:=Ke.out);(try have:=Md.out);(try have:=Me.out);(try have:=Jd.out);have Xo:=cells6 Ja.out;obtain ⟨Od,Jb,eo28⟩:=Kd.R_slice Jc.out;subst eo28;obtain ⟨Xc,Uc,eo29⟩:=Kd.S_slice Xb.out;subst eo29)|((with_reducible refine gate_store (t:=37) (p:=7) rfl ?_);refine store_event (t:=37) (p:=7) (v:=?vo_w30) (w1:=((((((w24.setCell ⟨Ma,0,none⟩ (I L Xa)).setCell ⟨Ma,1,none⟩ (I L Kb)).setCell ⟨Ma,2,none⟩ (I L Ub)).setCell ⟨Ma,3,none⟩ (I L Mc)).setCell ⟨Ma,4,none⟩ (Y Od Oc.length Jb)).setCell ⟨Ma,5,none⟩ (Y Xc Mb.length Uc))) ?hg ?ho ?hn ?hr ?_;(case ho=>rfl);(case hg=>rfl);(case hn=>rfl);(case hr=>first|(go_simp;done)|(go_simp;rfl));intro w30 hw;have n0_:Aside0 (Kd.R k57 57 w30 w.heap.size (fun _=>True) (Y Od Oc.length Jb) Oc):=⟨(by rw [hw];exact (rM_ (Kd.R_types Jc.out Ja.out (by decide)) (fun _ hk=>trivial)))⟩;have n1_:Aside0 (Kd.S k50 50 w30 w.heap.size (fun k_=>some k_≠(Y Od Oc.length Jb:Value).ownBlock) (Y Xc Mb.length Uc) Mb):=⟨(by rw [hw];exact (sM_ (Kd.S_types Xb.out Ja.out (by decide)) (fun _ hk=>hk.1)))⟩;have n2_:Aside0 (w30.heap[Kc]?=some (.cells #[I L a0_0,I L a0_1,I L a0_2,I L a0_3,Y A0_4 l0_4.length c0_4,Y A0_5 l0_5.length c0_5] 37 (0,0))):=⟨(by rw [hw];exact (by exact pP_ Ka.out))⟩;have n3_:Aside0 (w30.heap[Ob]?=some (.cells #[I L 0,I L 0,I L 0,I L 0,Y none 0 0,Y none 0 0] 37 (0,0))):=⟨(by rw [hw];exact (by exact pP_ Oa.out))⟩;have n4_:Aside0 (w30.heap[Ma]?=some (.cells #[I L Xa,I L Kb,I L Ub,I L Mc,Y Od Oc.length Jb,Y Xc Mb.length Uc] 37 (0,0))):=⟨(by rw [hw];exact (by exact pP_ Ja.out))⟩;have n5_:Aside0 (Below w.heap.size w w30):=⟨(by rw [hw];exact (pB_ HB.out))⟩;clear hw;clear Jc;clear Xb;clear Ka;clear Oa;clear Ja;clear HB;have Jc:=n0_;have Xb:=n1_;have Ka:=n2_;have Oa:=n3_;have Ja:=n4_;have HB:=n5_;clear n0_ n1_ n2_ n3_ n4_ n5_;have Xq:=cells6 Ja.out)|((with_reducible refine gate_callee (f:=22) rfl ?_);have hj_:0≤(Ua:Int):=od_ Z43;have hl_:(Ua:Int) < (Oc.length:Int):=od_ Z43;obtain ⟨gd33,cap_,ev_,_⟩:=Kd.R_form Jc.out (by omega);injection ev_ with ea_ el_ ec_;subst ea_;subst ec_;clear el_;refine goesL_ (some 29) rfl rfl Try.func22 (by kernel_rfl) rfl #[Y (some ⟨gd33,0,none⟩) Oc.length Jb,I L Ua,I L (wrap64 (Ua + 1))] rfl Z23 ?_;refine (del22_ (w0:=w) (base:=w.heap.size) (pR_ Jc.out) (pB_ HB.out) (below_size (pB_ HB.out)) hj_ hl_ rfl).mono ?_;rintro e w32 ⟨rfl,ho,hg,hb⟩;refine ⟨_,rfl,?_⟩;clear hj_ hl_;rw [← Ny399.out] at ho;have hn_:Oc.length - 1=y399.length:=(by have:=(Kd.R_reads' ho).1;omega);rw [hn_] at ho ⊢;clear hn_;have n_:=an_ (blk_grown (pk_ Ka.out) hg (Kd.R_ne Jc.out Ka.out (by decide)))<|an_ (blk_grown (pk_ Oa.out) hg (Kd.R_ne Jc.out Oa.out (by decide)))<|an_ (ho)<|an_ (Kd.S_after (v:=(Y (some ⟨gd33,0,none⟩) Oc.length Jb)) (v1:=Y (some ⟨gd33,0,none⟩) y399.length Jb) (ok:=(fun _=>True)) (pS_ (Kd.S_mono Xb.out (fun _ hk=>⟨trivial,hk⟩))) hg (.inl rfl))<|an_ (blk_grown (pk_ Ja.out) hg (Kd.R_ne Jc.out Ja.out (by decide)))<|D (hb);clear Ka Oa Jc Xb Ja HB;obtain ⟨Ka,Oa,Jc,Xb,Ja,HB⟩:=n_;clear ho hb hg;have Xs:=cells6 Ja.out)|((with_reducible refine gate_store (t:=32) (p:=31) rfl ?_);refine store_event (t:=32) (p:=31) (v:=?vo_w35) (w1:=(w32.setCell ⟨Ma,4,none⟩ (Y (some ⟨gd33,0,none⟩) y399.length Jb))) ?hg ?ho ?hn ?hr ?_;(case ho=>rfl);(case hg=>rfl);(case hn=>rfl);(case hr=>first|(go_simp;done)|(go_simp;rfl));intro w35 hw;have n0_:Aside0 (Kd.R k57 57 w35 w.heap.size (fun _=>True) (Y (some ⟨gd33,0,none⟩) y399.length Jb) y399):=⟨(by rw [hw];exact (rM_ (Kd.R_types Jc.out Ja.out (by decide)) (fun _ hk=>trivial)))⟩;have n1_:Aside0 (Kd.S k50 50 w35 w.heap.size (fun k_=>some k_≠(Y (some ⟨gd33,0,none⟩) y399.length Jb:Value).ownBlock) (Y Xc Mb.length Uc) Mb):=⟨(by rw [hw];exact (sM_ (Kd.S_types Xb.out Ja.out (by decide)) (fun _ hk=>hk.1.2)))⟩;have n2_:Aside0 (w35.heap[Kc]?=some (.cells #[I L a0_0,I L a0_1,I L a0_2,I L a0_3,Y A0_4 l0_4.length c0_4,Y A0_5 l0_5.length c0_5] 37 (0,0))):=⟨(by rw [hw];exact (by exact pP_ Ka.out))⟩;have n3_:Aside0 (w35.heap[Ob]?=some (.cells #[I L 0,I L 0,I L 0,I L 0,Y none 0 0,Y none 0 0] 37 (0,0))):=⟨(by rw [hw];exact (by exact pP_ Oa.out))⟩;have n4_:Aside0 (w35.heap[Ma]?=some (.cells #[I L Xa,I L Kb,I L Ub,I L Mc,Y (some ⟨gd33,0,none⟩) y399.length Jb,Y Xc Mb.length Uc] 37 (0,0))):=⟨(by rw [hw];exact (by exact pP_ Ja.out))⟩;have n5_:Aside0 (Below w.heap.size w w35):=⟨(by rw [hw];exact (pB_ HB.out))⟩;clear hw;clear Jc;clear Xb;clear Ka;clear Oa;clear Ja;clear HB;have Jc:=n0_;have Xb:=n1_;have Ka:=n2_;have Oa:=n3_;have Ja:=n4_;have HB:=n5_;clear n0_ n1_ n2_ n3_ n4_ n5_;have Xv:=cells6 Ja.out)|((with_reducible refine gate_callee (f:=23) rfl ?_);have hj_:0≤(Ua:Int):=od_ Z43;have hl_:(Ua:Int) < (Mb.length:Int):=od_ Z43;obtain ⟨gd38,cap_,ev_,_⟩:=Kd.S_form Xb.out (by omega);injection ev_ with ea_ el_ ec_;subst ea_;subst ec_;clear el_;refine goesL_ (some 37) rfl rfl Try.func23 (by kernel_rfl) rfl #[Y (some ⟨gd38,0,none⟩) Mb.length Uc,I L Ua,I L (wrap64 (Ua + 1))] rfl Z23 ?_;refine (del23_ (w0:=w) (base:=w.heap.size) (pS_ Xb.out) (pB_ HB.out) (below_size (pB_ HB.out)) hj_ hl_ rfl).mono ?_;rintro e w37 ⟨rfl,ho,hg,hb⟩;refine ⟨_,rfl,?_⟩;clear hj_ hl_;rw [← Ny402.out] at ho;have hn_:Mb.length - 1=y402.length:=(by have:=(Kd.S_reads' ho).1;omega);rw [hn_] at ho ⊢;clear hn_;have n_:=an_ (blk_grown (pk_ Ka.out) hg (Kd.S_ne Xb.out Ka.out (by decide)))<|an_ (blk_grown (pk_ Oa.out) hg (Kd.S_ne Xb.out Oa.out (by decide)))<|an_ (Kd.R_over' (v:=(Y (some ⟨gd38,0,none⟩) Mb.length Uc)) (pR_ Jc.out) (Kd.S_typed Xb.out) (by decide) hg)<|an_ (ho)<|an_ (blk_grown (pk_ Ja.out) hg (Kd.S_ne Xb.out Ja.out (by decide)))<|D (hb);clear Ka Oa Jc Xb Ja HB;obtain ⟨Ka,Oa,Jc,Xb,Ja,HB⟩:=n_;clear ho hb hg;have Xy:=cells6 Ja.out;have Xa1:=cells6 Oa.out))
      refine bodyPost_ret (results_ct rfl _ _ Ob 37 #[I L Xa,I L Kb,I L Ub,I L Mc,Y (some ⟨gd33,0,none⟩) y399.length Jb,Y (some ⟨gd38,0,none⟩) y402.length Uc] (0,0) _ rfl (by exact pP_ Oa.out) Try.underlying37 rfl (by kernel_rfl)) rfl ?_;exact ⟨_,_,er_,by (with_reducible repeat (first|apply Kd.R_alloc|apply Kd.R_drewN|apply Kd.R_drew));exact Kd.R_mono (fr_ (fr_ (fr_ (fr_ (fr_ (fr_ (Kd.R_far (p:=⟨Ma,5,none⟩) (Kd.R_types (Kd.R_types Jc.out Ja.out (by decide)) Oa.out (by decide)) (fun _ hk=>hk.1.2) (Y (some ⟨gd38,0,none⟩) y402.length Uc)) 0 (I L Xa)) 1 (I L Kb)) 2 (I L Ub)) 3 (I L Mc)) 4 (Y (some ⟨gd33,0,none⟩) y399.length Jb)) 5 (Y (some ⟨gd38,0,none⟩) y402.length Uc)) (fun _ hk=>trivial),by (with_reducible repeat (first|apply Kd.S_alloc|apply Kd.S_drewN|apply Kd.S_drew));exact Kd.S_mono (Kd.S_far (p:=⟨Ob,5,none⟩) (Kd.S_far (p:=⟨Ob,4,none⟩) (Kd.S_far (p:=⟨Ob,3,none⟩) (Kd.S_far (p:=⟨Ob,2,none⟩) (Kd.S_far (p:=⟨Ob,1,none⟩) (Kd.S_far (p:=⟨Ob,0,none⟩) (Kd.S_far (p:=⟨Ma,5,none⟩) (Kd.S_types (Kd.S_types Xb.out Ja.out (by decide)) Oa.out (by decide)) (fun _ hk=>hk.1.2) (Y (some ⟨gd38,0,none⟩) y402.length Uc)) (fun _ hk=>hk.2) (I L Xa)) (fun _ hk=>hk.2) (I L Kb)) (fun _ hk=>hk.2) (I L Ub)) (fun _ hk=>hk.2) (I L Mc)) (fun _ hk=>hk.2) (Y (some ⟨gd33,0,none⟩) y399.length Jb)) (fun _ hk=>hk.2) (Y (some ⟨gd38,0,none⟩) y402.length Uc)) (fun _ hk=>hk.1.1),pB_ HB.out⟩
     ·rw [if_neg c20] at H
      exact absurd H (by simp)
    ·rw [if_neg c19] at H
     exact absurd H (by simp)
   ·rw [if_neg c18] at H
    exact absurd H (by simp)
 ·replace c13 := Bool.eq_false_iff.mpr c13
  subst c13;rw [if_neg (show ¬ (false=true) by decide)] at H;simp only [Option.some.injEq,Prod.mk.injEq] at H;obtain ⟨rfl,rfl,rfl,rfl,rfl,rfl,rfl⟩:=H;(try have:=Je.out);(try have:=Xd.out);have Xc1:=cells6 Oa.out
  go_wp2
  refine bodyPost_ret (results_ct rfl _ _ Ob 37 #[I L 0,I L 0,I L 0,I L 0,Y none 0 0,Y none 0 0] (0,0) _ rfl Z4 Try.underlying37 rfl (by kernel_rfl)) rfl ?_;exact ⟨_,_,er_,by first|exact Kd.R_nil _ _ _ _ _|exact Kd.N_nil _ _ _ _ _|exact Kd.V_nil _ _ _ _ _|exact Kd.Q_nil _ _ _ _ _|exact Kd.S_nil _ _ _ _ _,by first|exact Kd.S_nil _ _ _ _ _|exact Kd.N_nil _ _ _ _ _|exact Kd.V_nil _ _ _ _ _|exact Kd.Q_nil _ _ _ _ _|exact Kd.R_nil _ _ _ _ _,pB_ HB.out⟩

/-! ### laws_eqVec: function 43 -/
def laws_eqVec.f (a0_0 a0_1 a0_2 a1_0 a1_1 a1_2 : Int) : Option (Bool) := if a0_0 = a1_0 then (if a0_1 = a1_1 then (if a0_2 = a1_2 then (some true) else (some false)) else (some false)) else (some false)
set_option maxHeartbeats 8000000 in
set_option maxRecDepth 100000 in
theorem laws_eqVec.calls (a0_0 a0_1 a0_2 a1_0 a1_1 a1_2 : Int) (r : Bool) (w : World) (h : laws_eqVec.f a0_0 a0_1 a0_2 a1_0 a1_1 a1_2 = some r) :
  Calls Try.prog 43 #[.agg #[I L a0_0,I L a0_1,I L a0_2],.agg #[I L a1_0,I L a1_1,I L a1_2]] w fun e w'=>e=.returned (.bool r)∧Below w.heap.size w w':=by
 have hu31 := Try.underlying31
 have HB := D (Below.refl w.heap.size w)
 have H : (if a0_0 = a1_0 then (if a0_1 = a1_1 then (if a0_2 = a1_2 then (some true) else (some false)) else (some false)) else (some false)) = some r := h
 clear h
 have HU3 := D H
 clear H
 go_enter Try.func43, Try.ntmps43
 go_upto_if 9 with (first|((with_reducible refine gate_dst (N:=2) rfl ?_);refine bx_ (N:=2) (cs:=#[I L a0_0,I L a0_1,I L a0_2]) (t:=31) ?_;intro gb405 hg w4 hbox hb;have n_:=an_ (below_step (pB_ HB.out) hb)<|an_ (hbox)<|an_ (bg_ hg (pB_ HB.out):w.heap.size≤gb405)<|D (bg_ hg (pB_ HB.out):w.heap.size≤gb405);clear HB;obtain ⟨HB,BK405,GW405,GE405⟩:=n_;clear hb hbox hg)|((with_reducible refine gate_dst (N:=3) rfl ?_);refine bx_ (N:=3) (cs:=#[I L a1_0,I L a1_1,I L a1_2]) (t:=31) ?_;intro gb406 hg w5 hbox hb;have n_:=an_ (blk_below (pk_ BK405.out) hb)<|an_ (below_step (pB_ HB.out) hb)<|an_ (hbox)<|an_ (bg_ hg (pB_ HB.out):w.heap.size≤gb406)<|an_ (bg_ hg (pB_ HB.out):w.heap.size≤gb406)<|an_ (nl_ hg (pk_ BK405.out):gb405≠gb406)<|D (by rw [hg];exact Nat.ne_of_gt (blk_lt (pk_ BK405.out)):gb406≠gb405);clear BK405 HB;obtain ⟨BK405,HB,BK406,GW406,GE406,NB405_406,NB406_405⟩:=n_;clear hb hbox hg;(try have:=NB405_406.out);(try have:=NB406_405.out);have hcz7_0:=cells3 BK405.out;have hcz8_0:=cells3 BK406.out))
 have H := HU3.out
 clear HU3
 by_cases c9 : a0_0 = a1_0
 ·rw [if_pos c9] at H
  have c9b0:(a0_0 == a1_0)=true:=beq_iff_eq.mpr c9;have c9b1:(a0_0 != a1_0)=false:=bne_eq_false_iff_eq.mpr c9;clear c9;refine rw_ c9b0 ?_
  by_cases c10 : a0_1 = a1_1
  ·rw [if_pos c10] at H
   have c10b0 : (a0_1 == a1_1) = true := beq_iff_eq.mpr c10; have c10b1 : (a0_1 != a1_1) = false := bne_eq_false_iff_eq.mpr c10; clear c10
   by_cases c11 : a0_2 = a1_2
   ·rw [if_pos c11] at H
    have c11b0:(a0_2 == a1_2)=true:=beq_iff_eq.mpr c11;have c11b1:(a0_2 != a1_2)=false:=bne_eq_false_iff_eq.mpr c11;clear c11;obtain rfl:=Option.some.inj H;(try have:=NB405_406.out);(try have:=NB406_405.out);have hcz13_0:=cells3 BK405.out;have hcz14_0:=cells3 BK406.out
    go_wp2
    go_ret; exact ⟨er_, pB_ HB.out⟩
   ·rw [if_neg c11] at H
    have c11b0:(a0_2 == a1_2)=false:=beq_eq_false_iff_ne.mpr c11;have c11b1:(a0_2 != a1_2)=true:=bne_iff_ne.mpr c11;obtain rfl:=Option.some.inj H;(try have:=NB405_406.out);(try have:=NB406_405.out);have hcz16_0:=cells3 BK405.out;have hcz17_0:=cells3 BK406.out
    go_wp2
    go_ret; exact ⟨er_, pB_ HB.out⟩
  ·rw [if_neg c10] at H
   have c10b0:(a0_1 == a1_1)=false:=beq_eq_false_iff_ne.mpr c10;have c10b1:(a0_1 != a1_1)=true:=bne_iff_ne.mpr c10;obtain rfl:=Option.some.inj H;(try have:=NB405_406.out);(try have:=NB406_405.out);have hcz19_0:=cells3 BK405.out;have hcz20_0:=cells3 BK406.out
   go_wp2
   go_ret; exact ⟨er_, pB_ HB.out⟩
 ·rw [if_neg c9] at H
  have c9b0:(a0_0 == a1_0)=false:=beq_eq_false_iff_ne.mpr c9;have c9b1:(a0_0 != a1_0)=true:=bne_iff_ne.mpr c9;refine rw_ c9b0 ?_;obtain rfl:=Option.some.inj H
  go_wp2
  go_ret; exact ⟨er_, pB_ HB.out⟩

/-! ### laws_eqKid: function 57 -/
def laws_eqKid.f (a0_0 a0_1 : Int) (a0_2 : Bool) (a0_3 a0_4 a0_5 a1_0 a1_1 : Int) (a1_2 : Bool) (a1_3 a1_4 a1_5 : Int) : Option (Bool) := if a0_0 = a1_0 then (if a0_1 = a1_1 then (if (a0_2 != a1_2) = true then (some false) else ((laws_eqVec.f a0_3 a0_4 a0_5 a1_3 a1_4 a1_5).bind fun t409 => (if t409 = true then (some true) else (some false)))) else (some false)) else (some false)
set_option maxHeartbeats 8000000 in
set_option maxRecDepth 100000 in
theorem laws_eqKid.calls (a0_0 a0_1 : Int) (a0_2 : Bool) (a0_3 a0_4 a0_5 a1_0 a1_1 : Int) (a1_2 : Bool) (a1_3 a1_4 a1_5 : Int) (r : Bool) (w : World) (h : laws_eqKid.f a0_0 a0_1 a0_2 a0_3 a0_4 a0_5 a1_0 a1_1 a1_2 a1_3 a1_4 a1_5 = some r) :
  Calls Try.prog 57 #[.agg #[I L a0_0,I L a0_1,.bool a0_2,I L a0_3,I L a0_4,I L a0_5],.agg #[I L a1_0,I L a1_1,.bool a1_2,I L a1_3,I L a1_4,I L a1_5]] w fun e w'=>e=.returned (.bool r)∧Below w.heap.size w w':=by
 have hu57 := Try.underlying57
 have hu31 := Try.underlying31
 have HB := D (Below.refl w.heap.size w)
 have H:(if a0_0=a1_0 then (if a0_1=a1_1 then (if (a0_2 != a1_2)=true then (some false) else ((laws_eqVec.f a0_3 a0_4 a0_5 a1_3 a1_4 a1_5).bind fun t409=>(if t409=true then (some true) else (some false)))) else (some false)) else (some false))=some r:=h
 clear h
 have HU3 := D H
 clear H
 go_enter Try.func57, Try.ntmps57
 go_upto_if 9 with (first|((with_reducible refine gate_dst (N:=2) rfl ?_);refine bx_ (N:=2) (cs:=#[I L a0_0,I L a0_1,.bool a0_2,I L a0_3,I L a0_4,I L a0_5]) (t:=57) ?_;intro gb407 hg w4 hbox hb;have n_:=an_ (below_step (pB_ HB.out) hb)<|an_ (hbox)<|an_ (bg_ hg (pB_ HB.out):w.heap.size≤gb407)<|D (bg_ hg (pB_ HB.out):w.heap.size≤gb407);clear HB;obtain ⟨HB,BK407,GW407,GE407⟩:=n_;clear hb hbox hg)|((with_reducible refine gate_dst (N:=3) rfl ?_);refine bx_ (N:=3) (cs:=#[I L a1_0,I L a1_1,.bool a1_2,I L a1_3,I L a1_4,I L a1_5]) (t:=57) ?_;intro gb408 hg w5 hbox hb;have n_:=an_ (blk_below (pk_ BK407.out) hb)<|an_ (below_step (pB_ HB.out) hb)<|an_ (hbox)<|an_ (bg_ hg (pB_ HB.out):w.heap.size≤gb408)<|an_ (bg_ hg (pB_ HB.out):w.heap.size≤gb408)<|an_ (nl_ hg (pk_ BK407.out):gb407≠gb408)<|D (by rw [hg];exact Nat.ne_of_gt (blk_lt (pk_ BK407.out)):gb408≠gb407);clear BK407 HB;obtain ⟨BK407,HB,BK408,GW408,GE408,NB407_408,NB408_407⟩:=n_;clear hb hbox hg;(try have:=NB407_408.out);(try have:=NB408_407.out);have hcz7_0:=cells6 BK407.out;have hcz8_0:=cells6 BK408.out))
 have H := HU3.out
 clear HU3
 by_cases c9 : a0_0 = a1_0
 ·rw [if_pos c9] at H
  have c9b0:(a0_0 == a1_0)=true:=beq_iff_eq.mpr c9;have c9b1:(a0_0 != a1_0)=false:=bne_eq_false_iff_eq.mpr c9;clear c9;refine rw_ c9b0 ?_
  by_cases c10 : a0_1 = a1_1
  ·rw [if_pos c10] at H
   have c10b0 : (a0_1 == a1_1) = true := beq_iff_eq.mpr c10; have c10b1 : (a0_1 != a1_1) = false := bne_eq_false_iff_eq.mpr c10; clear c10
   by_cases c11 : (a0_2 != a1_2) = true
   ·rw [if_pos c11] at H
    have c11b0:(a0_2 != a1_2)=true:=c11;(try (have c11b1:decide (a0_2=a1_2)=false:=by simpa using c11));(try (have c11b2:(a0_2 == a1_2)=false:=by simpa using c11));(try (have c11b3:¬ (a0_2=a1_2):=by simpa using c11));clear c11;obtain rfl:=Option.some.inj H;(try have:=NB407_408.out);(try have:=NB408_407.out);have hcz13_0:=cells6 BK407.out;have hcz14_0:=cells6 BK408.out
    go_wp2
    go_ret; exact ⟨er_, pB_ HB.out⟩
   ·rw [if_neg c11] at H
    have c11b0 : (a0_2 != a1_2) = false := by simpa using c11
    (try (have c11b1:decide (a0_2=a1_2)=true:=by simpa using c11));(try (have c11b2:(a0_2 == a1_2)=true:=by simpa using c11));clear c11;obtain ⟨t409,A150,H⟩:=bs_.mp H;(try dsimp only at H);have A15:=D A150;clear A150;have HU16:=D H;clear H;(try have:=NB407_408.out);(try have:=NB408_407.out);have hcz18_0:=cells6 BK407.out;have hcz19_0:=cells6 BK408.out
    go_upto_if 25 with (first|((with_reducible refine gate_callee (f:=43) rfl ?_);refine goesL_ (some 24) rfl rfl Try.func43 (by kernel_rfl) rfl #[.agg #[I L a0_3,I L a0_4,I L a0_5],.agg #[I L a1_3,I L a1_4,I L a1_5]] rfl Z12 ?_;(with_reducible refine (laws_eqVec.calls a0_3 a0_4 a0_5 a1_3 a1_4 a1_5 t409 _ A15.out).mono ?_);rintro e w20 ⟨rfl,hb⟩;refine ⟨_,rfl,?_⟩;have n_:=an_ (blk_below (pk_ BK407.out) hb)<|an_ (blk_below (pk_ BK408.out) hb)<|D (below_step (pB_ HB.out) hb);clear BK407 BK408 HB;obtain ⟨BK407,BK408,HB⟩:=n_;(try clear hb)))
    have H := HU16.out; clear HU16
    by_cases c21 : t409 = true
    ·subst c21
     rw [if_pos rfl] at H; obtain rfl := Option.some.inj H
     go_wp2
     go_ret; exact ⟨er_, pB_ HB.out⟩
    ·replace c21 := Bool.eq_false_iff.mpr c21
     subst c21; rw [if_neg (show ¬ (false = true) by decide)] at H; obtain rfl := Option.some.inj H
     go_wp2
     go_ret; exact ⟨er_, pB_ HB.out⟩
  ·rw [if_neg c10] at H
   have c10b0:(a0_1 == a1_1)=false:=beq_eq_false_iff_ne.mpr c10;have c10b1:(a0_1 != a1_1)=true:=bne_iff_ne.mpr c10;obtain rfl:=Option.some.inj H;(try have:=NB407_408.out);(try have:=NB408_407.out);have hcz23_0:=cells6 BK407.out;have hcz24_0:=cells6 BK408.out
   go_wp2
   go_ret; exact ⟨er_, pB_ HB.out⟩
 ·rw [if_neg c9] at H
  have c9b0:(a0_0 == a1_0)=false:=beq_eq_false_iff_ne.mpr c9;have c9b1:(a0_0 != a1_0)=true:=bne_iff_ne.mpr c9;refine rw_ c9b0 ?_;obtain rfl:=Option.some.inj H
  go_wp2
  go_ret; exact ⟨er_, pB_ HB.out⟩

end Go.Proofs.Ytmloggnobgikdaa.PFnExactTreeCut
