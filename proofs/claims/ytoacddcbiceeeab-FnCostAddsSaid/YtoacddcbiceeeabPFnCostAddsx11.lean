-- by a program of this session's, over the kit's words
import Derived.Test.YtoacddcbiceeeabPZFnCostAdds
import Derived.Test.YtoacddcbiceeeabPFnCostAddsx0
import Derived.Test.YtoacddcbiceeeabPFnCostAddsx3
import Derived.Test.YtoacddcbiceeeabPFnCostAddsx5
import Derived.Test.YtoacddcbiceeeabPFnCostAddsx10
namespace Go.Proofs.Ytoacddcbiceeeab.PFnCostAdds
open Go.RowKit Go.Proofs.YtoacddcbiceeeabW.PrintWords Go.Proofs.YtoacddcbiceeeabW.PrintLast Go.Proofs.YtoacddcbiceeeabW.PrintMore Go.Proofs.YtoacddcbiceeeabV Go.Proofs.Ytoacddcbiceeeab.ZFnCostAdds
open Go.Value renaming int → I, slice → Y
open Go.IntKind renaming i64 → L
open Aside0 renaming mk → D
open Option renaming bind_eq_some_iff → bs_
attribute [local go_sem] max2_int min2_int max_two min_two max_three min_three max_four min_four   -- for this text's walks alone
set_option linter.unusedVariables false
set_option linter.unusedSimpArgs false

attribute [local go_sem high] eqA34
/-! ### spec_l01Cur_chain: function 13 -/
def spec_l01Cur_chain.l0 : Nat → Int → List (S36) → Int → List Int → Int → Int → Option ((List (S36)) × Int × Int)
 | 0, _, _, _, _, _, _ => none
 | k + 1,x1,x7,x8,x1000,x1001,x1002=>if x8 > 0 then ((spec_l01Cur_module.f k x1000 x1001 x1002 x1).bind fun bt427=>(if bt427.1=1 then ((spec_l01Cur_once.f x1000 bt427.2.2.2.2.2.2.2.2.2.2.2.2.2.2.2.2.2.1 bt427.2.2.2.2.2.2.2.2.2.2.2.2.2.2.2.2.2.2 2).bind fun bt447=>(if bt447.1=true then (if x7.length < 1034834473200 then (spec_l01Cur_chain.l0 k x1 (x7 ++ [(⟨4,(⟨(⟨0,0,0,0,0⟩:S32),0⟩:S34),(⟨(⟨0,0,0,0,0⟩:S32),0⟩:S34),0,0,0,0⟩:S36)]) (wrap64 (x8 - 1)) x1000 bt447.2.1 bt447.2.2) else (none)) else (if x7.length < 1034834473200 then (spec_l01Cur_chain.l0 k x1 (x7 ++ [(⟨bt427.1,(⟨(⟨bt427.2.1,bt427.2.2.1,bt427.2.2.2.1,bt427.2.2.2.2.1,bt427.2.2.2.2.2.1⟩:S32),bt427.2.2.2.2.2.2.1⟩:S34),(⟨(⟨bt427.2.2.2.2.2.2.2.1,bt427.2.2.2.2.2.2.2.2.1,bt427.2.2.2.2.2.2.2.2.2.1,bt427.2.2.2.2.2.2.2.2.2.2.1,bt427.2.2.2.2.2.2.2.2.2.2.2.1⟩:S32),bt427.2.2.2.2.2.2.2.2.2.2.2.2.1⟩:S34),bt427.2.2.2.2.2.2.2.2.2.2.2.2.2.1,bt427.2.2.2.2.2.2.2.2.2.2.2.2.2.2.1,bt427.2.2.2.2.2.2.2.2.2.2.2.2.2.2.2.1,bt427.2.2.2.2.2.2.2.2.2.2.2.2.2.2.2.2.1⟩:S36)]) (wrap64 (x8 - 1)) x1000 bt447.2.1 bt447.2.2) else (none)))) else (if x7.length < 1034834473200 then (spec_l01Cur_chain.l0 k x1 (x7 ++ [(⟨bt427.1,(⟨(⟨bt427.2.1,bt427.2.2.1,bt427.2.2.2.1,bt427.2.2.2.2.1,bt427.2.2.2.2.2.1⟩:S32),bt427.2.2.2.2.2.2.1⟩:S34),(⟨(⟨bt427.2.2.2.2.2.2.2.1,bt427.2.2.2.2.2.2.2.2.1,bt427.2.2.2.2.2.2.2.2.2.1,bt427.2.2.2.2.2.2.2.2.2.2.1,bt427.2.2.2.2.2.2.2.2.2.2.2.1⟩:S32),bt427.2.2.2.2.2.2.2.2.2.2.2.2.1⟩:S34),bt427.2.2.2.2.2.2.2.2.2.2.2.2.2.1,bt427.2.2.2.2.2.2.2.2.2.2.2.2.2.2.1,bt427.2.2.2.2.2.2.2.2.2.2.2.2.2.2.2.1,bt427.2.2.2.2.2.2.2.2.2.2.2.2.2.2.2.2.1⟩:S36)]) (wrap64 (x8 - 1)) x1000 bt427.2.2.2.2.2.2.2.2.2.2.2.2.2.2.2.2.2.1 bt427.2.2.2.2.2.2.2.2.2.2.2.2.2.2.2.2.2.2) else (none)))) else (some (x7,x1001,x1002))
def spec_l01Cur_chain.f (k : Nat) (s0_0 : List Int) (s0_1 s0_2 a1 a2 : Int) : Option ((List (S36)) × Int × Int) := (spec_l01Cur_pick.f s0_0 s0_1 s0_2 (wrap64 (a2 + 1))).bind fun bt424 => (spec_l01Cur_chain.l0 k a1 (([] : List (S36))) bt424.1 s0_0 bt424.2.1 bt424.2.2)
set_option maxHeartbeats 8000000 in
set_option maxRecDepth 100000 in
theorem spec_l01Cur_chain.calls (k g : Nat) (s0_0 : List Int) (s0_1 s0_2 a1 a2 : Int) (r1 : List (S36)) (r2 r3 : Int) (w0 w : World) (hI : IsS55 w0 w g s0_0 s0_1 s0_2) (hB : Below w0.heap.size w0 w) (h : spec_l01Cur_chain.f k s0_0 s0_1 s0_2 a1 a2 = some (r1, r2, r3)) :
  Calls Try.prog 13 #[.pointer (some ⟨g,0,none⟩),I L a1,I L a2] w fun e w'=>∃ v0_:Value,e=.returned (v0_)∧Kd.R k36 36 w' w.heap.size (fun _=>True) v0_ r1∧IsS55 w0 w' g s0_0 r2 r3∧Below w0.heap.size w0 w'∧KeepBut w w' g none:=by
 have hu36 := Try.underlying36
 have HI0 := D hI
 have HK := D (KeepBut.refl w g none)
 have HL := D hB.size
 clear hI
 have HW0 := D hB.size
 have HB := D hB
 clear hB
 have H : ((spec_l01Cur_pick.f s0_0 s0_1 s0_2 (wrap64 (a2 + 1))).bind fun bt424 => (spec_l01Cur_chain.l0 k a1 (([] : List (S36))) bt424.1 s0_0 bt424.2.1 bt424.2.2)) = some (r1, r2, r3) := h
 clear h
 obtain ⟨y421, hy421⟩ : ∃ y_ : List (S36), y_ = (([] : List (S36))) := ⟨_, rfl⟩
 replace H:((spec_l01Cur_pick.f s0_0 s0_1 s0_2 (wrap64 (a2 + 1))).bind fun bt424=>(spec_l01Cur_chain.l0 k a1 y421 bt424.1 s0_0 bt424.2.1 bt424.2.2))=some (r1,r2,r3):=by first|(rw [hy421];with_reducible exact H)|(have H2_:=(Option.bind_some _ _).symm.trans H;rw [hy421];with_reducible exact H2_)|(have H2_:=(Option.bind_some _ _).symm.trans H;with_reducible exact H2_)|with_reducible exact H|(rw [hy421];exact H)|exact H
 have Ny421 := D hy421
 clear hy421
 obtain ⟨⟨Jf, Kf, Mf⟩, A40, H⟩ := bs_.mp H
 (try dsimp only at H)
 have A4 := D A40
 clear A40
 have H' := D H
 clear H
 go_enter Try.func13, Try.ntmps13
 go_wp2_with (first|((with_reducible refine gbs_ 25 rfl ?_);refine bs25_ ?_)|((with_reducible refine gbd_ 36 rfl ?_);refine ba36_0 ?_)|((with_reducible refine gld_ 3 rfl ?_);refine lc3_ ?_)|((with_reducible refine gst_ 36 rfl ?_);refine sa36_ ?_)|((with_reducible refine gld_ 36 rfl ?_);refine la36_ ?_)|((with_reducible refine gate_dst (N:=10) rfl ?_);refine Kd.R_lit k36 _ 36 ?hg (N:=10) ?hd (xs:=([]:List (S36))) (inner:=[]) (ok:=fun _=>True) (okp:=fun _=>True) ?hr ?hp (fun _ hk=>hk) trivial (Below.refl _ _) (Nat.le_refl _) (by simp) ?_;(case hd=>rfl);(case hg=>rfl);(case hr=>first|(go_simp;done)|(go_simp;rfl));(case hp=>exact (Reps.none _ _));intro Og w5 ho6 hb hg_ hnew_;clear hg_ hnew_;(first|rw [← Ny421.out] at ho6|(simp only [Int.reduceToNat] at ho6;rw [← Ny421.out] at ho6));have n_:=an_ (Kd.R_lower ho6 (keep_size (w:=w) (g:=g) (row:=none) (pK_ HK.out)))<|an_ (IsS55.below (pU55_ HI0.out) hb)<|an_ (KeepBut.trans (pK_ HK.out) (KeepBut.of_below hb g none) (.inl rfl))<|D (below_step (pT55_ HB.out) hb);clear HI0 HK HB;obtain ⟨Xe,HI0,HK,HB⟩:=n_;clear hb ho6)|((with_reducible refine gate_callee (f:=12) rfl ?_);refine goesL_ (some 14) rfl rfl Try.func12 (by kernel_rfl) rfl #[.pointer (some ⟨g,0,none⟩),I L (wrap64 (a2 + 1))] rfl Z15 ?_;(with_reducible refine (spec_l01Cur_pick.calls g s0_0 s0_1 s0_2 (wrap64 (a2 + 1)) Jf Kf Mf w0 _ ?side1 ?side2 A4.out).mono ?_);(case side1=>exact pS55_ HI0.out);(case side2=>exact pT55_ HB.out);rintro e w7 ⟨rfl,hi,hb,hk⟩;refine ⟨_,rfl,?_⟩;have n_:=an_ (Kd.R_mono (Kd.R_keep (IsS55.apart (show IsS55 w0 _ g s0_0 s0_1 s0_2 from pS55_ HI0.out) (pR_ Xe.out) (by decide)) hk (fun _ h=>h.2)) (fun _ h=>h.1))<|an_ (KeepBut.trans (pK_ HK.out) hk (.inl rfl))<|an_ (hb)<|D (hi);clear Xe HK HB HI0;obtain ⟨Xe,HK,HB,HI0⟩:=n_;(try clear hb);(try clear hk);(try clear hi)))
 go_loopg [7,8] k (fun kq v7 v8 w'=>∃ (x7_1:List (S36)) (x8_1:Int) (Xd:Int) (Je:Int),v8=I L x8_1∧Aside0 (spec_l01Cur_chain.l0 kq a1 x7_1 x8_1 s0_0 Xd Je=some (r1,r2,r3))∧Aside0 (kq≤k)∧Aside0 (Kd.R k36 36 w' w.heap.size (fun _=>True) v7 x7_1)∧Aside0 (IsS55 w0 w' g s0_0 Xd Je)∧Aside0 (KeepBut w w' g none)∧Aside0 (Below w0.heap.size w0 w'))
 case atStart => exact ⟨(y421), (Jf), (Kf), (Mf), Z22, H', ⟨Nat.le_refl _⟩, ⟨pR_ Xe.out⟩, ⟨pS55_ HI0.out⟩, ⟨pK_ HK.out⟩, ⟨pT55_ HB.out⟩⟩
 case round =>
  clear H'
  (try clear c1);(try clear p2);(try clear p6)
  obtain ⟨x7_1, x8_1, Xd, Je, rfl, HA, HK1, Md, HI0, HK, HB⟩ := hrel
  cases gk with
  | zero => exact absurd HA.out (by simp [spec_l01Cur_chain.l0])
  | succ k1 =>
   have H := HA.out; clear HA; simp only [spec_l01Cur_chain.l0] at H
   by_cases c8 : x8_1 > 0
   ·rw [if_pos c8] at H
    have c8b0:decide (0 < x8_1)=true:=decide_eq_true c8;clear c8;obtain ⟨⟨Ka,Ma,Oa,Ua,Xa,Jb,Kb,Mb,Ub,Xb,Jc,Kc,Mc,Oc,Uc,Xc,Jd,Od,Ud⟩,A90,H⟩:=bs_.mp H;(try dsimp only at H);have A9:=D A90;clear A90
    by_cases c10 : Ka = 1
    ·rw [if_pos c10] at H
     have c10b0:(Ka == 1)=true:=beq_iff_eq.mpr c10;have c10b1:(Ka != 1)=false:=bne_eq_false_iff_eq.mpr c10;clear c10;obtain ⟨⟨Of,Me,Oe⟩,A110,H⟩:=bs_.mp H;(try dsimp only at H);have A11:=D A110;clear A110;have HU12:=D H;clear H
     go_upto_if 28 with (first|((with_reducible refine gbs_ 25 rfl ?_);refine bs25_ ?_)|((with_reducible refine gbd_ 36 rfl ?_);refine ba36_0 ?_)|((with_reducible refine gld_ 3 rfl ?_);refine lc3_ ?_)|((with_reducible refine gst_ 36 rfl ?_);refine sa36_ ?_)|((with_reducible refine gld_ 36 rfl ?_);refine la36_ ?_)|((with_reducible refine gate_callee (f:=28) rfl ?_);refine goesL_ (some 21) rfl rfl Try.func28 (by kernel_rfl) rfl #[.pointer (some ⟨g,0,none⟩),I L a1] rfl Z15 ?_;(with_reducible refine (spec_l01Cur_module.calls k1 g s0_0 Xd Je a1 Ka Ma Oa Ua Xa Jb Kb Mb Ub Xb Jc Kc Mc Oc Uc Xc Jd Od Ud w0 _ ?side1 ?side2 A9.out).mono ?_);(case side1=>exact pS55_ HI0.out);(case side2=>exact pT55_ HB.out);rintro e w13 ⟨rfl,hi,hb,hk⟩;refine ⟨_,rfl,?_⟩;have n_:=an_ (Kd.R_mono (Kd.R_keep (IsS55.apart (show IsS55 w0 _ g s0_0 Xd Je from pS55_ HI0.out) (pR_ Md.out) (by decide)) hk (fun _ h=>h.2)) (fun _ h=>h.1))<|an_ (KeepBut.trans (pK_ HK.out) hk (.inl rfl))<|an_ (hb)<|D (hi);clear Md HK HB HI0;obtain ⟨Md,HK,HB,HI0⟩:=n_;(try clear hb);(try clear hk);(try clear hi))|((with_reducible refine gate_dst (N:=9) rfl ?_);refine bx_ (N:=9) (cs:=#[I L 0,I L 0,I L 0,I L 0,I L 0,I L 0,I L 0,I L 0,I L 0,I L 0,I L 0,I L 0,I L 0,I L 0,I L 0,I L 0,I L 0]) (t:=36) ?_;intro Ob hg w14 hbox hb;have n_:=an_ (Kd.R_below (Kd.R_elderB (pR_ Md.out) Ob (Nat.le_of_eq hg.symm)) hb)<|an_ (IsS55.below (pU55_ HI0.out) hb)<|an_ (KeepBut.trans (pK_ HK.out) (KeepBut.of_below hb g none) (.inl rfl))<|an_ (below_step (pT55_ HB.out) hb)<|an_ (hbox)<|an_ ((by rw [hg];exact (keep_size (w:=w) (g:=g) (row:=none) (pK_ HK.out)):w.heap.size≤Ob))<|an_ ((Nat.le_trans HW0.out (by rw [hg];exact (keep_size (w:=w) (g:=g) (row:=none) (pK_ HK.out)):w.heap.size≤Ob):w0.heap.size≤Ob))<|an_ ((by rw [hg];exact Nat.ne_of_lt (IsS55.lt (show IsS55 w0 _ g s0_0 Od Ud from pS55_ HI0.out)):g≠Ob))<|D (by rw [hg];exact Nat.ne_of_gt (IsS55.lt (show IsS55 w0 _ g s0_0 Od Ud from pS55_ HI0.out)):Ob≠g);clear Md HI0 HK HB;obtain ⟨Md,HI0,HK,HB,Ja,Uf,Xf,Ue,Ke⟩:=n_;clear hb hbox hg;(try have:=Ke.out);(try have:=Ue.out))|(go_at_call 10;(with_reducible refine (spec_l01Cur_once.calls g s0_0 Od Ud 2 Of Me Oe w0 _ ?side1 ?side2 A11.out).mono ?_);(case side1=>exact pS55_ HI0.out);(case side2=>exact pT55_ HB.out);rintro e w17 ⟨rfl,hi,hb,hk⟩;have n_:=an_ (Kd.R_mono (Kd.R_keep (IsS55.apart (show IsS55 w0 _ g s0_0 Od Ud from pS55_ HI0.out) (rM_ (Kd.R_mono Md.out (fun k_ hk=>(⟨hk,hk.2⟩:_∧k_≠Ob))) (fun _ h_=>h_.1)) (by decide)) hk (fun _ h=>h.2)) (fun _ h=>h.1))<|an_ (KeepBut.blk hk (g':=Ob) (o:=.cells #[I L Ka,I L Ma,I L Oa,I L Ua,I L Xa,I L Jb,I L Kb,I L Mb,I L Ub,I L Xb,I L Jc,I L Kc,I L Mc,I L Oc,I L Uc,I L Xc,I L Jd] 36 (0,0)) Z2 Ke.out (by simp))<|an_ (KeepBut.trans (pK_ HK.out) hk (.inl rfl))<|an_ (hb)<|D (hi);clear Md Ja HK HB HI0;obtain ⟨Md,Ja,HK,HB,HI0⟩:=n_;(try clear hb);(try clear hk);(try clear hi)))
     have H := HU12.out; clear HU12
     by_cases c18 : Of = true
     ·subst c18
      rw [if_pos rfl] at H
      by_cases c19 : x7_1.length < 1034834473200
      ·rw [if_pos c19] at H
       have LMc19:=D c19;clear c19;obtain ⟨y450,hy450⟩:∃ y_:List (S36),y_=(x7_1 ++ [(⟨4,(⟨(⟨0,0,0,0,0⟩:S32),0⟩:S34),(⟨(⟨0,0,0,0,0⟩:S32),0⟩:S34),0,0,0,0⟩:S36)]):=⟨_,rfl⟩
       replace H:(spec_l01Cur_chain.l0 k1 a1 y450 (wrap64 (x8_1 - 1)) s0_0 Me Oe)=some (r1,r2,r3):=by first|(rw [hy450];with_reducible exact H)|(have H2_:=(Option.bind_some _ _).symm.trans H;rw [hy450];with_reducible exact H2_)|(have H2_:=(Option.bind_some _ _).symm.trans H;with_reducible exact H2_)|with_reducible exact H|(rw [hy450];exact H)|exact H
       have Ny450:=D hy450;clear hy450;have H':=D H;clear H;(try have:=Ke.out);(try have:=Ue.out)
       go_wp2_with (first|((with_reducible refine gbs_ 25 rfl ?_);refine bs25_ ?_)|((with_reducible refine gbd_ 36 rfl ?_);refine ba36_0 ?_)|((with_reducible refine gld_ 3 rfl ?_);refine lc3_ ?_)|((with_reducible refine gst_ 36 rfl ?_);refine sa36_ ?_)|((with_reducible refine gld_ 36 rfl ?_);refine la36_ ?_)|((with_reducible refine gate_builtin (b:=.append) (xs:=#[.tmp 30,.tmp 32]) rfl ?_);at_builtin;refine Kd.R_append k36 w.heap.size rfl (.tmp 30) (.tmp 32) 25 36 (.agg #[(I L 0),(I L 0),(I L 0),(I L 0),(I L 0),(I L 0),(I L 0),(I L 0),(I L 0),(I L 0),(I L 0),(I L 0),(I L 0),(I L 0),(I L 0),(I L 0),(I L 0)]) 136 rfl Try.underlying25 info36 rfl (by decide) (by omega) u7 x7_1 (⟨4,(⟨(⟨0,0,0,0,0⟩:S32),0⟩:S34),(⟨(⟨0,0,0,0,0⟩:S32),0⟩:S34),0,0,0,0⟩:S36) [I L 4,I L 0,I L 0,I L 0,I L 0,I L 0,I L 0,I L 0,I L 0,I L 0,I L 0,I L 0,I L 0,I L 0,I L 0,I L 0,I L 0] (fun k_=>k_≠Ob) (fun _=>False) rfl (by first|(go_simp;done)|(go_simp;rfl)) ?aP (fun _ hk=>hk.elim) ?aF ?aO (Below.refl _ _) ?aS ?aL ?_;(case aP=>exact k36_mkM _ _ _ (⟨4,(⟨(⟨0,0,0,0,0⟩:S32),0⟩:S34),(⟨(⟨0,0,0,0,0⟩:S32),0⟩:S34),0,0,0,0⟩:S36));(case aF=>exact (fun k_ hk=>Kd.freshB (g:=Ob) (o:=.cells #[I L 4,I L 0,I L 0,I L 0,I L 0,I L 0,I L 0,I L 0,I L 0,I L 0,I L 0,I L 0,I L 0,I L 0,I L 0,I L 0,I L 0] 36 (0,0)) Z1 k_ hk));(case aO=>exact (rM_ (Kd.R_mono Md.out (fun k_ hk=>(⟨hk,hk.2⟩:_∧k_≠Ob))) (fun _ hk=>hk.1.2)));(case aS=>exact (keep_size (w:=w) (g:=g) (row:=none) (pK_ HK.out)));(case aL=>have:=LMc19.out;omega);intro Ju w22 ho hb hg hat;rw [← Ny450.out] at ho;have n_:=an_ (IsS55.grown (pU55_ HI0.out) hg (IsS55.own_ne HI0.out Md.out (by decide)))<|an_ (blk_grown (g:=Ob) (o:=.cells #[I L 4,I L 0,I L 0,I L 0,I L 0,I L 0,I L 0,I L 0,I L 0,I L 0,I L 0,I L 0,I L 0,I L 0,I L 0,I L 0,I L 0] 36 (0,0)) Z1 hg (Kd.R_away Md.out (fun _ hk=>hk.2)))<|an_ (below_weaken (pT55_ HB.out) HL.out hb)<|an_ (KeepBut.trans (pK_ HK.out) (KeepBut.of_grown hg g) (Kd.R_base2 Md.out))<|D (ho);clear HI0 Ja HB HK Md;obtain ⟨HI0,Ja,HB,HK,Jg⟩:=n_;clear ho hb hg hat))
       go_roundg k1
       case measure => have := HK1.out; omega
       case rel => exact ⟨(y450), (wrap64 (x8_1 - 1)), (Me), (Oe), Z22, H', ⟨by have := HK1.out; omega⟩, ⟨pR_ (Kd.R_mono Jg.out (fun _ hk => trivial))⟩, ⟨pS55_ HI0.out⟩, ⟨pK_ HK.out⟩, ⟨pT55_ HB.out⟩⟩
      ·rw [if_neg c19] at H
       exact absurd H (by simp)
     ·replace c18 := Bool.eq_false_iff.mpr c18
      subst c18; rw [if_neg (show ¬ (false = true) by decide)] at H
      by_cases c23 : x7_1.length < 1034834473200
      ·rw [if_pos c23] at H
       have LMc23:=D c23;clear c23;obtain ⟨y453,hy453⟩:∃ y_:List (S36),y_=(x7_1 ++ [(⟨Ka,(⟨(⟨Ma,Oa,Ua,Xa,Jb⟩:S32),Kb⟩:S34),(⟨(⟨Mb,Ub,Xb,Jc,Kc⟩:S32),Mc⟩:S34),Oc,Uc,Xc,Jd⟩:S36)]):=⟨_,rfl⟩
       replace H:(spec_l01Cur_chain.l0 k1 a1 y453 (wrap64 (x8_1 - 1)) s0_0 Me Oe)=some (r1,r2,r3):=by first|(rw [hy453];with_reducible exact H)|(have H2_:=(Option.bind_some _ _).symm.trans H;rw [hy453];with_reducible exact H2_)|(have H2_:=(Option.bind_some _ _).symm.trans H;with_reducible exact H2_)|with_reducible exact H|(rw [hy453];exact H)|exact H
       have Ny453:=D hy453;clear hy453;have H':=D H;clear H;(try have:=Ke.out);(try have:=Ue.out)
       go_wp2_with (first|((with_reducible refine gbs_ 25 rfl ?_);refine bs25_ ?_)|((with_reducible refine gbd_ 36 rfl ?_);refine ba36_0 ?_)|((with_reducible refine gld_ 3 rfl ?_);refine lc3_ ?_)|((with_reducible refine gst_ 36 rfl ?_);refine sa36_ ?_)|((with_reducible refine gld_ 36 rfl ?_);refine la36_ ?_)|((with_reducible refine gate_builtin (b:=.append) (xs:=#[.tmp 30,.tmp 32]) rfl ?_);at_builtin;refine Kd.R_append k36 w.heap.size rfl (.tmp 30) (.tmp 32) 25 36 (.agg #[(I L 0),(I L 0),(I L 0),(I L 0),(I L 0),(I L 0),(I L 0),(I L 0),(I L 0),(I L 0),(I L 0),(I L 0),(I L 0),(I L 0),(I L 0),(I L 0),(I L 0)]) 136 rfl Try.underlying25 info36 rfl (by decide) (by omega) u7 x7_1 (⟨Ka,(⟨(⟨Ma,Oa,Ua,Xa,Jb⟩:S32),Kb⟩:S34),(⟨(⟨Mb,Ub,Xb,Jc,Kc⟩:S32),Mc⟩:S34),Oc,Uc,Xc,Jd⟩:S36) [I L Ka,I L Ma,I L Oa,I L Ua,I L Xa,I L Jb,I L Kb,I L Mb,I L Ub,I L Xb,I L Jc,I L Kc,I L Mc,I L Oc,I L Uc,I L Xc,I L Jd] (fun k_=>k_≠Ob) (fun _=>False) rfl rfl ?aP (fun _ hk=>hk.elim) ?aF ?aO (Below.refl _ _) ?aS ?aL ?_;(case aP=>exact k36_mkM _ _ _ (⟨Ka,(⟨(⟨Ma,Oa,Ua,Xa,Jb⟩:S32),Kb⟩:S34),(⟨(⟨Mb,Ub,Xb,Jc,Kc⟩:S32),Mc⟩:S34),Oc,Uc,Xc,Jd⟩:S36));(case aF=>exact (fun k_ hk=>Kd.freshB (pk_ Ja.out) k_ hk));(case aO=>exact (pR_ (Kd.R_mono Md.out (fun _ hk=>hk.2))));(case aS=>exact (keep_size (w:=w) (g:=g) (row:=none) (pK_ HK.out)));(case aL=>have:=LMc23.out;omega);intro Xa1 w26 ho hb hg hat;rw [← Ny453.out] at ho;have n_:=an_ (IsS55.grown (pU55_ HI0.out) hg (IsS55.own_ne HI0.out Md.out (by decide)))<|an_ (blk_grown (pk_ Ja.out) hg (Kd.R_away Md.out (fun _ hk=>hk.2)))<|an_ (below_weaken (pT55_ HB.out) HL.out hb)<|an_ (KeepBut.trans (pK_ HK.out) (KeepBut.of_grown hg g) (Kd.R_base2 Md.out))<|D (ho);clear HI0 Ja HB HK Md;obtain ⟨HI0,Ja,HB,HK,Kg⟩:=n_;clear ho hb hg hat))
       go_roundg k1
       case measure => have := HK1.out; omega
       case rel => exact ⟨(y453), (wrap64 (x8_1 - 1)), (Me), (Oe), Z22, H', ⟨by have := HK1.out; omega⟩, ⟨pR_ (Kd.R_mono Kg.out (fun _ hk => trivial))⟩, ⟨pS55_ HI0.out⟩, ⟨pK_ HK.out⟩, ⟨pT55_ HB.out⟩⟩
      ·rw [if_neg c23] at H
       exact absurd H (by simp)
    ·rw [if_neg c10] at H
     have c10b0 : (Ka == 1) = false := beq_eq_false_iff_ne.mpr c10; have c10b1 : (Ka != 1) = true := bne_iff_ne.mpr c10
     by_cases c27 : x7_1.length < 1034834473200
     ·rw [if_pos c27] at H
      have LMc27:=D c27;clear c27;obtain ⟨y456,hy456⟩:∃ y_:List (S36),y_=(x7_1 ++ [(⟨Ka,(⟨(⟨Ma,Oa,Ua,Xa,Jb⟩:S32),Kb⟩:S34),(⟨(⟨Mb,Ub,Xb,Jc,Kc⟩:S32),Mc⟩:S34),Oc,Uc,Xc,Jd⟩:S36)]):=⟨_,rfl⟩
      replace H:(spec_l01Cur_chain.l0 k1 a1 y456 (wrap64 (x8_1 - 1)) s0_0 Od Ud)=some (r1,r2,r3):=by first|(rw [hy456];with_reducible exact H)|(have H2_:=(Option.bind_some _ _).symm.trans H;rw [hy456];with_reducible exact H2_)|(have H2_:=(Option.bind_some _ _).symm.trans H;with_reducible exact H2_)|with_reducible exact H|(rw [hy456];exact H)|exact H
      have Ny456 := D hy456; clear hy456; have H' := D H; clear H
      go_wp2_with (first|((with_reducible refine gbs_ 25 rfl ?_);refine bs25_ ?_)|((with_reducible refine gbd_ 36 rfl ?_);refine ba36_0 ?_)|((with_reducible refine gld_ 3 rfl ?_);refine lc3_ ?_)|((with_reducible refine gst_ 36 rfl ?_);refine sa36_ ?_)|((with_reducible refine gld_ 36 rfl ?_);refine la36_ ?_)|((with_reducible refine gate_callee (f:=28) rfl ?_);refine goesL_ (some 21) rfl rfl Try.func28 (by kernel_rfl) rfl #[.pointer (some ⟨g,0,none⟩),I L a1] rfl Z15 ?_;(with_reducible refine (spec_l01Cur_module.calls k1 g s0_0 Xd Je a1 Ka Ma Oa Ua Xa Jb Kb Mb Ub Xb Jc Kc Mc Oc Uc Xc Jd Od Ud w0 _ ?side1 ?side2 A9.out).mono ?_);(case side1=>exact pS55_ HI0.out);(case side2=>exact pT55_ HB.out);rintro e w28 ⟨rfl,hi,hb,hk⟩;refine ⟨_,rfl,?_⟩;have n_:=an_ (Kd.R_mono (Kd.R_keep (IsS55.apart (show IsS55 w0 _ g s0_0 Xd Je from pS55_ HI0.out) (pR_ Md.out) (by decide)) hk (fun _ h=>h.2)) (fun _ h=>h.1))<|an_ (KeepBut.trans (pK_ HK.out) hk (.inl rfl))<|an_ (hb)<|D (hi);clear Md HK HB HI0;obtain ⟨Md,HK,HB,HI0⟩:=n_;(try clear hb);(try clear hk);(try clear hi))|((with_reducible refine gate_dst (N:=9) rfl ?_);refine bx_ (N:=9) (cs:=#[I L 0,I L 0,I L 0,I L 0,I L 0,I L 0,I L 0,I L 0,I L 0,I L 0,I L 0,I L 0,I L 0,I L 0,I L 0,I L 0,I L 0]) (t:=36) ?_;intro Ob hg w29 hbox hb;have n_:=an_ (Kd.R_below (Kd.R_elderB (pR_ Md.out) Ob (Nat.le_of_eq hg.symm)) hb)<|an_ (IsS55.below (pU55_ HI0.out) hb)<|an_ (KeepBut.trans (pK_ HK.out) (KeepBut.of_below hb g none) (.inl rfl))<|an_ (below_step (pT55_ HB.out) hb)<|an_ (hbox)<|an_ ((by rw [hg];exact (keep_size (w:=w) (g:=g) (row:=none) (pK_ HK.out)):w.heap.size≤Ob))<|an_ ((Nat.le_trans HW0.out (by rw [hg];exact (keep_size (w:=w) (g:=g) (row:=none) (pK_ HK.out)):w.heap.size≤Ob):w0.heap.size≤Ob))<|an_ ((by rw [hg];exact Nat.ne_of_lt (IsS55.lt (show IsS55 w0 _ g s0_0 Od Ud from pS55_ HI0.out)):g≠Ob))<|D (by rw [hg];exact Nat.ne_of_gt (IsS55.lt (show IsS55 w0 _ g s0_0 Od Ud from pS55_ HI0.out)):Ob≠g);clear Md HI0 HK HB;obtain ⟨Md,HI0,HK,HB,Ja,Uf,Xf,Ue,Ke⟩:=n_;clear hb hbox hg;(try have:=Ke.out);(try have:=Ue.out))|((with_reducible refine gate_builtin (b:=.append) (xs:=#[.tmp 30,.tmp 32]) rfl ?_);at_builtin;refine Kd.R_append k36 w.heap.size rfl (.tmp 30) (.tmp 32) 25 36 (.agg #[(I L 0),(I L 0),(I L 0),(I L 0),(I L 0),(I L 0),(I L 0),(I L 0),(I L 0),(I L 0),(I L 0),(I L 0),(I L 0),(I L 0),(I L 0),(I L 0),(I L 0)]) 136 rfl Try.underlying25 info36 rfl (by decide) (by omega) u7 x7_1 (⟨Ka,(⟨(⟨Ma,Oa,Ua,Xa,Jb⟩:S32),Kb⟩:S34),(⟨(⟨Mb,Ub,Xb,Jc,Kc⟩:S32),Mc⟩:S34),Oc,Uc,Xc,Jd⟩:S36) [I L Ka,I L Ma,I L Oa,I L Ua,I L Xa,I L Jb,I L Kb,I L Mb,I L Ub,I L Xb,I L Jc,I L Kc,I L Mc,I L Oc,I L Uc,I L Xc,I L Jd] (fun k_=>k_≠Ob) (fun _=>False) rfl (by first|(go_simp;done)|(go_simp;rfl)) ?aP (fun _ hk=>hk.elim) ?aF ?aO (Below.refl _ _) ?aS ?aL ?_;(case aP=>exact k36_mkM _ _ _ (⟨Ka,(⟨(⟨Ma,Oa,Ua,Xa,Jb⟩:S32),Kb⟩:S34),(⟨(⟨Mb,Ub,Xb,Jc,Kc⟩:S32),Mc⟩:S34),Oc,Uc,Xc,Jd⟩:S36));(case aF=>exact (fun k_ hk=>Kd.freshB (g:=Ob) (o:=.cells #[I L Ka,I L Ma,I L Oa,I L Ua,I L Xa,I L Jb,I L Kb,I L Mb,I L Ub,I L Xb,I L Jc,I L Kc,I L Mc,I L Oc,I L Uc,I L Xc,I L Jd] 36 (0,0)) Z2 k_ hk));(case aO=>exact (rM_ (Kd.R_mono Md.out (fun k_ hk=>(⟨hk,hk.2⟩:_∧k_≠Ob))) (fun _ hk=>hk.1.2)));(case aS=>exact (keep_size (w:=w) (g:=g) (row:=none) (pK_ HK.out)));(case aL=>have:=LMc27.out;omega);intro Ug1 w32 ho hb hg hat;rw [← Ny456.out] at ho;have n_:=an_ (IsS55.grown (pU55_ HI0.out) hg (IsS55.own_ne HI0.out Md.out (by decide)))<|an_ (blk_grown (g:=Ob) (o:=.cells #[I L Ka,I L Ma,I L Oa,I L Ua,I L Xa,I L Jb,I L Kb,I L Mb,I L Ub,I L Xb,I L Jc,I L Kc,I L Mc,I L Oc,I L Uc,I L Xc,I L Jd] 36 (0,0)) Z2 hg (Kd.R_away Md.out (fun _ hk=>hk.2)))<|an_ (below_weaken (pT55_ HB.out) HL.out hb)<|an_ (KeepBut.trans (pK_ HK.out) (KeepBut.of_grown hg g) (Kd.R_base2 Md.out))<|D (ho);clear HI0 Ja HB HK Md;obtain ⟨HI0,Ja,HB,HK,Mg⟩:=n_;clear ho hb hg hat))
      go_roundg k1
      case measure => have := HK1.out; omega
      case rel => exact ⟨(y456), (wrap64 (x8_1 - 1)), (Od), (Ud), Z22, H', ⟨by have := HK1.out; omega⟩, ⟨pR_ (Kd.R_mono Mg.out (fun _ hk => trivial))⟩, ⟨pS55_ HI0.out⟩, ⟨pK_ HK.out⟩, ⟨pT55_ HB.out⟩⟩
     ·rw [if_neg c27] at H
      exact absurd H (by simp)
   ·rw [if_neg c8] at H
    have c8b0 : decide (0 < x8_1) = false := decide_eq_false c8; clear c8; simp only [Option.some.injEq, Prod.mk.injEq] at H; obtain ⟨rfl, rfl, rfl⟩ := H
    go_wp2_with (first|((with_reducible refine gbs_ 25 rfl ?_);refine bs25_ ?_)|((with_reducible refine gbd_ 36 rfl ?_);refine ba36_0 ?_)|((with_reducible refine gld_ 3 rfl ?_);refine lc3_ ?_)|((with_reducible refine gst_ 36 rfl ?_);refine sa36_ ?_)|((with_reducible refine gld_ 36 rfl ?_);refine la36_ ?_))
    go_ret;exact ⟨_,er_,by (with_reducible repeat (first|apply Kd.R_alloc|apply Kd.R_drewN|apply Kd.R_drew));exact Md.out,pS55_ HI0.out,pT55_ HB.out,pK_ HK.out⟩

/-! ### spec_DrawChainCost: function 5 -/
mutual
def spec_DrawChainCost.j0 : Nat → List (S43) → List Int → Int → Int → Option ((List (S43)) × (List (S36)) × Int)
 | 0, _, _, _, _ => none
 | k + 1,x6,x463000,x463001,x463002=>(spec_l01Cur_once.f x463000 x463001 x463002 9).bind fun bt478=>(if bt478.1=true then (if x6.length < 2932031007402 then (spec_DrawChainCost.j1 k (x6 ++ [(⟨(⟨0,0,0⟩:S29),(⟨0,0,0⟩:S29)⟩:S43)]) x463000 bt478.2.1 bt478.2.2) else (none)) else (spec_DrawChainCost.j1 k x6 x463000 bt478.2.1 bt478.2.2))
def spec_DrawChainCost.j1 : Nat → List (S43) → List Int → Int → Int → Option ((List (S43)) × (List (S36)) × Int)
 | 0, _, _, _, _ => none
 | k + 1,x6,x463000,x463001,x463002=>(spec_l01Cur_chain.f k x463000 x463001 x463002 4 9).bind fun bt484=>((spec_l01Cur_wide.f x463000 bt484.2.1 bt484.2.2 1600).bind fun bt489=>((spec_l01Cur_wide.f x463000 bt489.2.1 bt489.2.2 1600).bind fun bt492=>((spec_l01Cur_raw.f x463000 bt492.2.1 bt492.2.2).bind fun bt495=>((some (([bt489.1,bt492.1,1600,bt495.1]:List Int):List Int)).bind fun y498=>((spec_l01Cur_pick.f x463000 bt495.2.1 bt495.2.2 4).bind fun bt501=>(if 0≤bt501.1 then (if bt501.1 < (y498.length:Int) then (some (x6,bt484.1,rd y498 bt501.1)) else (none)) else (none)))))))
end
def spec_DrawChainCost.f (k : Nat) (l0 : List Int) : Option ((List (S43)) × (List (S36)) × Int) := (spec_l01Open.f l0).bind fun bt459 => ((spec_l01Cur_profs.f k bt459.1 bt459.2.1 bt459.2.2).bind fun bt463 => ((spec_l01Cur_once.f bt459.1 bt463.2.1 bt463.2.2 9).bind fun bt468 => (if bt468.1 = true then ((spec_l01Cur_pick.f bt459.1 bt468.2.1 bt468.2.2 7).bind fun bt471 => ((spec_l01Cur_raw.f bt459.1 bt471.2.1 bt471.2.2).bind fun bt474 => (if 0 ≤ bt471.1 then (if bt471.1 < (bt463.1.length : Int) then (spec_DrawChainCost.j0 k (bt463.1.set (bt471.1 : Int).toNat (⟨(⟨bt474.1, (rd_T43 bt463.1 bt471.1).f0.f1, (rd_T43 bt463.1 bt471.1).f0.f2⟩ : S29), (⟨(rd_T43 bt463.1 bt471.1).f1.f0, (rd_T43 bt463.1 bt471.1).f1.f1, (rd_T43 bt463.1 bt471.1).f1.f2⟩ : S29)⟩ : S43)) bt459.1 bt474.2.1 bt474.2.2) else (none)) else (none)))) else (spec_DrawChainCost.j0 k bt463.1 bt459.1 bt468.2.1 bt468.2.2))))
def spec_DrawChainCost.T8 : Bool × List (List Nat × List Nat) := (true, [([], []), ([], []), ([], []), ([2], [2]), ([], []), ([4, 3], [4]), ([], []), ([6, 5], [6]), ([3, 5, 7], [3, 5, 7]), ([], []), ([9, 7], [9]), ([8, 10], [8, 10]), ([11], [11]), ([0, 10, 0], [0]), ([1, 13, 0, 1, 13], [1]), ([12, 14, 0, 1, 2, 3, 4, 5, 6, 7, 8, 9, 10, 11, 12, 13, 14], [12])])
def spec_DrawChainCost.B8 : List Nat := [0, 0, 0, 4, 0, 28, 0, 124, 252, 0, 764, 2044, 4092, 1789, 9983, 32767]
theorem spec_DrawChainCost.tab8 : rtab .any (opsOf Try.f5 8) = spec_DrawChainCost.T8 := by kernel_rfl
theorem spec_DrawChainCost.bits8 : waitsOk spec_DrawChainCost.T8.2 spec_DrawChainCost.B8 = true := by kernel_rfl
set_option maxHeartbeats 8000000 in
set_option maxRecDepth 100000 in
theorem spec_DrawChainCost.calls (k : Nat) (A0 : Option Addr) (c0 : Nat) (l0 : List Int) (r1 : List (S43)) (r2 : List (S36)) (r3 : Int) (w : World) (hr0 : Kd.C (Kd.int .u8) w A0 l0.length l0) (hc0 : l0.length ≤ c0) (h : spec_DrawChainCost.f k l0 = some (r1, r2, r3)) :
  Calls Try.prog 5 #[Y A0 l0.length c0] w fun e w'=>∃ v0_ v1_:Value,e=.returned (.tuple #[v0_,v1_,I L r3])∧Kd.R k43 43 w' w.heap.size (fun _=>True) v0_ r1∧Kd.R k36 36 w' w.heap.size (fun _=>True) v1_ r2∧Below w.heap.size w w':=by
 have hu43 := Try.underlying43
 have HR0 := D hr0
 have HC0 := D hc0
 clear hr0 hc0
 have HB := D (Below.refl w.heap.size w)
 have H:((spec_l01Open.f l0).bind fun bt459=>((spec_l01Cur_profs.f k bt459.1 bt459.2.1 bt459.2.2).bind fun bt463=>((spec_l01Cur_once.f bt459.1 bt463.2.1 bt463.2.2 9).bind fun bt468=>(if bt468.1=true then ((spec_l01Cur_pick.f bt459.1 bt468.2.1 bt468.2.2 7).bind fun bt471=>((spec_l01Cur_raw.f bt459.1 bt471.2.1 bt471.2.2).bind fun bt474=>(if 0≤bt471.1 then (if bt471.1 < (bt463.1.length:Int) then (spec_DrawChainCost.j0 k (bt463.1.set (bt471.1:Int).toNat (⟨(⟨bt474.1,(rd_T43 bt463.1 bt471.1).f0.f1,(rd_T43 bt463.1 bt471.1).f0.f2⟩:S29),(⟨(rd_T43 bt463.1 bt471.1).f1.f0,(rd_T43 bt463.1 bt471.1).f1.f1,(rd_T43 bt463.1 bt471.1).f1.f2⟩:S29)⟩:S43)) bt459.1 bt474.2.1 bt474.2.2) else (none)) else (none)))) else (spec_DrawChainCost.j0 k bt463.1 bt459.1 bt468.2.1 bt468.2.2)))))=some (r1,r2,r3):=h
 clear h
 obtain ⟨⟨Ma, Mg, Og⟩, A20, H⟩ := bs_.mp H
 (try dsimp only at H)
 have A2 := D A20
 clear A20
 obtain ⟨⟨Ua, Xe, Jf⟩, A30, H⟩ := bs_.mp H
 (try dsimp only at H)
 have A3 := D A30
 clear A30
 obtain ⟨⟨Ug, Me, Oe⟩, A40, H⟩ := bs_.mp H
 (try dsimp only at H)
 have A4 := D A40
 clear A40
 have HC5 := D H
 clear H
 go_enter Try.func5, Try.ntmps5
 go_upto_if 13 with (first|((with_reducible refine gate_callee (f:=8) rfl ?_);refine goesL_ (some 9) rfl rfl Try.func8 (by kernel_rfl) rfl #[Y A0 l0.length c0] rfl Z15 ?_;(with_reducible refine (spec_l01Open.calls _ _ l0 Ma Mg Og w _ ?side1 ?side2 ?side3 A2.out).mono ?_);(case side1=>exact pB_ HB.out);(case side2=>exact HR0.out);(case side3=>exact HC0.out);rintro e w6 ⟨g462,rfl,hi,hb,hb2⟩;refine ⟨_,rfl,?_⟩;have n_:=an_ (hb)<|D (hi);clear HB;obtain ⟨HB,HI462⟩:=n_;(try clear hb);(try clear hb2);(try clear hi))|((with_reducible refine gate_callee (f:=9) rfl ?_);refine goesL_ (some 11) rfl rfl Try.func9 (by kernel_rfl) rfl #[.pointer (some ⟨g462,0,none⟩)] rfl Z15 ?_;(with_reducible refine (spec_l01Cur_profs.calls k g462 Ma Mg Og Ua Xe Jf w _ ?side1 ?side2 A3.out).mono ?_);(case side1=>exact pS55_ HI462.out);(case side2=>exact pT55_ HB.out);rintro e w7 ⟨Xg,rfl,ho0,hi,hb,hk⟩;refine ⟨_,rfl,?_⟩;have n_:=an_ (Kd.R_lower ho0 (below_size (pT55_ HB.out)))<|an_ (hb)<|D (hi);clear HB HI462;obtain ⟨Kb,HB,HI462⟩:=n_;(try clear hb);(try clear hk);(try clear hi);(try clear ho0))|((with_reducible refine gate_callee (f:=10) rfl ?_);refine goesL_ (some 13) rfl rfl Try.func10 (by kernel_rfl) rfl #[.pointer (some ⟨g462,0,none⟩),I L 9] rfl Z15 ?_;(with_reducible refine (spec_l01Cur_once.calls g462 Ma Xe Jf 9 Ug Me Oe w _ ?side1 ?side2 A4.out).mono ?_);(case side1=>exact pS55_ HI462.out);(case side2=>exact pT55_ HB.out);rintro e w8 ⟨rfl,hi,hb,hk⟩;refine ⟨_,rfl,?_⟩;have n_:=an_ (Kd.R_mono (Kd.R_keep (IsS55.apart (show IsS55 w _ g462 Ma Xe Jf from pS55_ HI462.out) (pR_ Kb.out) (by decide)) hk (fun _ h=>h.2)) (fun _ h=>h.1))<|an_ (hb)<|D (hi);clear Kb HB HI462;obtain ⟨Kb,HB,HI462⟩:=n_;(try clear hb);(try clear hk);(try clear hi)))
 (try simp only [Act.put, List.setIfInBounds_toArray, List.set_cons_zero, List.set_cons_succ])
 go_cut [] (fun wc=>∃ (kq:Nat) (x6_4:List (S43)) (Xc:Int) (Jd:Int),Aside0 (spec_DrawChainCost.j0 kq x6_4 Ma Xc Jd=some (r1,r2,r3))∧Aside0 (kq≤k)∧Aside0 (Kd.R k43 43 wc w.heap.size (fun _=>True) Xg x6_4)∧Aside0 (IsS55 w wc g462 Ma Xc Jd)∧Aside0 (Below w.heap.size w wc))
 case first =>
  have H := HC5.out; clear HC5
  by_cases c9 : Ug = true
  ·subst c9
   rw [if_pos rfl] at H;obtain ⟨⟨Ka,Kf,Mf⟩,A100,H⟩:=bs_.mp H;(try dsimp only at H);have A10:=D A100;clear A100;obtain ⟨⟨Mc,Of,Uf⟩,A110,H⟩:=bs_.mp H;(try dsimp only at H);have A11:=D A110;clear A110
   by_cases c12 : 0 ≤ Ka
   ·rw [if_pos c12] at H
    have c12b0:decide (0≤Ka)=true:=decide_eq_true c12;clear c12;refine rw_ c12b0 ?_
    by_cases c13 : Ka < (Ua.length : Int)
    ·rw [if_pos c13] at H
     have c13b0:decide (Ka < (Ua.length:Int))=true:=decide_eq_true c13;clear c13;obtain ⟨y477,hy477⟩:∃ y_:List (S43),y_=(Ua.set (Ka:Int).toNat (⟨(⟨Mc,(rd_T43 Ua Ka).f0.f1,(rd_T43 Ua Ka).f0.f2⟩:S29),(⟨(rd_T43 Ua Ka).f1.f0,(rd_T43 Ua Ka).f1.f1,(rd_T43 Ua Ka).f1.f2⟩:S29)⟩:S43)):=⟨_,rfl⟩
     replace H:(spec_DrawChainCost.j0 k y477 Ma Of Uf)=some (r1,r2,r3):=by first|(rw [hy477];with_reducible exact H)|(have H2_:=(Option.bind_some _ _).symm.trans H;rw [hy477];with_reducible exact H2_)|(have H2_:=(Option.bind_some _ _).symm.trans H;with_reducible exact H2_)|with_reducible exact H|(rw [hy477];exact H)|exact H
     have Ny477 := D hy477; clear hy477; have H' := D H; clear H
     go_wp2_with (first|((with_reducible refine gate_callee (f:=12) rfl ?_);refine goesL_ (some 16) rfl rfl Try.func12 (by kernel_rfl) rfl #[.pointer (some ⟨g462,0,none⟩),I L 7] rfl Z15 ?_;(with_reducible refine (spec_l01Cur_pick.calls g462 Ma Me Oe 7 Ka Kf Mf w _ ?side1 ?side2 A10.out).mono ?_);(case side1=>exact pS55_ HI462.out);(case side2=>exact pT55_ HB.out);rintro e w15 ⟨rfl,hi,hb,hk⟩;refine ⟨_,rfl,?_⟩;have n_:=an_ (Kd.R_mono (Kd.R_keep (IsS55.apart (show IsS55 w _ g462 Ma Me Oe from pS55_ HI462.out) (pR_ Kb.out) (by decide)) hk (fun _ h=>h.2)) (fun _ h=>h.1))<|an_ (hb)<|D (hi);clear Kb HB HI462;obtain ⟨Kb,HB,HI462⟩:=n_;(try clear hb);(try clear hk);(try clear hi))|((with_reducible refine gate_callee (f:=11) rfl ?_);refine goesL_ (some 18) rfl rfl Try.func11 (by kernel_rfl) rfl #[.pointer (some ⟨g462,0,none⟩)] rfl Z15 ?_;(with_reducible refine (spec_l01Cur_raw.calls g462 Ma Kf Mf Mc Of Uf w _ ?side1 ?side2 A11.out).mono ?_);(case side1=>exact pS55_ HI462.out);(case side2=>exact pT55_ HB.out);rintro e w16 ⟨rfl,hi,hb,hk⟩;refine ⟨_,rfl,?_⟩;have n_:=an_ (Kd.R_mono (Kd.R_keep (IsS55.apart (show IsS55 w _ g462 Ma Kf Mf from pS55_ HI462.out) (pR_ Kb.out) (by decide)) hk (fun _ h=>h.2)) (fun _ h=>h.1))<|an_ (hb)<|D (hi);clear Kb HB HI462;obtain ⟨Kb,HB,HI462⟩:=n_;(try clear hb);(try clear hk);(try clear hi);have p14:0≤(Ka:Int):=od_ Z21;have q14:(Ka:Int) < ((Ua.length:Int):Int):=od_ Z21;obtain ⟨go14,Jh,eo14,Kh,gl14,cl14,HG14⟩:=Kd.R_form Kb.out (by omega);(first|cases eo14|(injection eo14 with ea_ en_ ec_;(first|subst ea_|(injection ea_ with ea_;subst ea_));subst ec_;clear en_));have GB14:=D Kh;have GG14:=D HG14;clear Kh gl14 HG14;obtain ⟨ce14,hcl14,hM14,hcc14,hfr14⟩:=Kd.R_elem Kb.out z43 (Ka:Int) p14 q14;obtain rfl:=k43_openM hM14;have hx14_0:w16.cell? ⟨go14,(Ka:Int).toNat * 6,none⟩=some (I L ((rd_T43 Ua Ka).f0.f0)):=hcc14 0 _ rfl;have hx14_1:w16.cell? ⟨go14,(Ka:Int).toNat * 6 + 1,none⟩=some (I L ((rd_T43 Ua Ka).f0.f1)):=hcc14 1 _ rfl;have hx14_2:w16.cell? ⟨go14,(Ka:Int).toNat * 6 + 2,none⟩=some (I L ((rd_T43 Ua Ka).f0.f2)):=hcc14 2 _ rfl;have hx14_3:w16.cell? ⟨go14,(Ka:Int).toNat * 6 + 3,none⟩=some (I L ((rd_T43 Ua Ka).f1.f0)):=hcc14 3 _ rfl;have hx14_4:w16.cell? ⟨go14,(Ka:Int).toNat * 6 + 4,none⟩=some (I L ((rd_T43 Ua Ka).f1.f1)):=hcc14 4 _ rfl;have hx14_5:w16.cell? ⟨go14,(Ka:Int).toNat * 6 + 5,none⟩=some (I L ((rd_T43 Ua Ka).f1.f2)):=hcc14 5 _ rfl;have hf14_0:w16.frozen? ⟨go14,(Ka:Int).toNat * 6,none⟩=false:=hfr14 0;have hf14_1:w16.frozen? ⟨go14,(Ka:Int).toNat * 6 + 1,none⟩=false:=hfr14 1;have hf14_2:w16.frozen? ⟨go14,(Ka:Int).toNat * 6 + 2,none⟩=false:=hfr14 2;have hf14_3:w16.frozen? ⟨go14,(Ka:Int).toNat * 6 + 3,none⟩=false:=hfr14 3;have hf14_4:w16.frozen? ⟨go14,(Ka:Int).toNat * 6 + 4,none⟩=false:=hfr14 4;have hf14_5:w16.frozen? ⟨go14,(Ka:Int).toNat * 6 + 5,none⟩=false:=hfr14 5;clear hcl14 hcc14 hfr14 hM14;replace p14:=eq_true p14;replace q14:=eq_true q14;have HX17:=D (show Kd.R k43 43 w16 w.heap.size (fun _=>True) (Y (some ⟨go14,0,none⟩) Ua.length Jh) Ua from (pR_ Kb.out));obtain ⟨ce17,hcl17,hM17,hcc17,hfr17⟩:=Kd.R_elem HX17.out z43 (Ka:Int) (od_ Z21) (by have h_:(Ka:Int) < ((Ua.length:Int):Int):=od_ Z21;first|exact h_|(have e_:=(Kd.R_reads' Kb.out).1;omega)|simpa using h_);obtain rfl:=k43_openM hM17;have HP17:=Kd.R_seg HX17.out (Ka:Int) (od_ Z21) (by have h_:(Ka:Int) < ((Ua.length:Int):Int):=od_ Z21;first|exact h_|(have e_:=(Kd.R_reads' Kb.out).1;omega)|simpa using h_) (seg:=[I L Mc]) (j:=0) hcl17 hcc17 (show 1≤6 from by decide) (x':=(⟨(⟨Mc,(rd_T43 Ua Ka).f0.f1,(rd_T43 Ua Ka).f0.f2⟩:S29),(⟨(rd_T43 Ua Ka).f1.f0,(rd_T43 Ua Ka).f1.f1,(rd_T43 Ua Ka).f1.f2⟩:S29)⟩:S43)) (k43_mkM _ _ _ (⟨(⟨Mc,(rd_T43 Ua Ka).f0.f1,(rd_T43 Ua Ka).f0.f2⟩:S29),(⟨(rd_T43 Ua Ka).f1.f0,(rd_T43 Ua Ka).f1.f1,(rd_T43 Ua Ka).f1.f2⟩:S29)⟩:S43) ) (fun _ hk=>hk);have hx17_0:=hcc17 0 _ rfl;(try simp only [show (k43).sz=6 from rfl,Nat.mul_one,Nat.add_zero] at hx17_0);have hf17_0:=hfr17 0;(try simp only [show (k43).sz=6 from rfl,Nat.mul_one,Nat.add_zero] at hf17_0);clear hcl17 hcc17 hfr17 hM17)|((with_reducible refine gate_store (t:=3) (p:=21) rfl ?_);refine store_event (t:=3) (p:=21) (v:=?vo_w18) (w1:=(w16.setCell ⟨go14,(Ka:Int).toNat * 6,none⟩ (I L Mc))) ?hg ?ho ?hn ?hr ?_;(case ho=>rfl);(case hg=>rfl);(case hn=>rfl);(case hr=>first|(go_simp;done)|(go_simp;rfl));intro w18 hw;have hg:w16.grownBy w18 (some go14):=(by rw [hw];exact HP17.2);have hp_:Kd.R k43 43 w18 w.heap.size (fun _=>True) (Y (some ⟨go14,0,none⟩) Ua.length Jh) y477:=(by rw [hw,Ny477.out];exact HP17.1);clear HP17;have n_:=an_ (IsS55.grown (pU55_ HI462.out) hg (IsS55.own_ne HI462.out Kb.out (by decide)))<|an_ (hp_)<|D (by rw [hw];exact below_set (HB.out) GB14.out:Below w.heap.size w w18);clear HI462 Kb HB;obtain ⟨HI462,Kb,HB⟩:=n_;clear hg hw hp_))
     go_meet
     case rel => exact ⟨_, (y477), (Of), (Uf), H', ⟨by first | omega | exact Nat.le_refl _⟩, ⟨pR_ Kb.out⟩, ⟨pS55_ HI462.out⟩, ⟨pT55_ HB.out⟩⟩
    ·rw [if_neg c13] at H
     exact absurd H (by simp)
   ·rw [if_neg c12] at H
    exact absurd H (by simp)
  ·replace c9 := Bool.eq_false_iff.mpr c9
   subst c9; rw [if_neg (show ¬ (false = true) by decide)] at H; have H' := D H; clear H
   go_wp2
   go_meet
   case rel => exact ⟨_, (Ua), (Me), (Oe), H', ⟨by first | omega | exact Nat.le_refl _⟩, ⟨pR_ Kb.out⟩, ⟨pS55_ HI462.out⟩, ⟨pT55_ HB.out⟩⟩
 case rest =>
  clear HC5
  (try clear c1);(try clear p1);(try clear q1);(try clear hx1);(try clear hf1);(try clear p2);(try clear c5);(try clear c8);(try clear c9);(try clear c10);(try clear c11);(try clear c12);(try clear c12b0);(try clear c13);(try clear c13b0);(try clear c14);(try clear p14);(try clear q14);(try clear hx14);(try clear hf14);(try clear c17);(try clear hx17);(try clear hf17);(try clear hx14_0 hx14_1 hx14_2 hx14_3 hx14_4 hx14_5);(try clear hx17_0);(try clear p14);(try clear q14)
  obtain ⟨kq, x6_4, Xc, Jd, HA, HJ4, Ja, HI462, HB⟩ := hcut
  cases kq with
  | zero => exact absurd HA.out (by simp [spec_DrawChainCost.j0])
  | succ kj4 =>
   have H:=HA.out;clear HA;simp only [spec_DrawChainCost.j0] at H;obtain ⟨⟨Mh,Oc,Uc⟩,A190,H⟩:=bs_.mp H;(try dsimp only at H);have A19:=D A190;clear A190;have HC20:=D H;clear H
   go_upto_if 23 with (first|((with_reducible refine gate_callee (f:=10) rfl ?_);refine goesL_ (some 23) rfl rfl Try.func10 (by kernel_rfl) rfl #[.pointer (some ⟨g462,0,none⟩),I L 9] rfl Z15 ?_;(with_reducible refine (spec_l01Cur_once.calls g462 Ma Xc Jd 9 Mh Oc Uc w _ ?side1 ?side2 A19.out).mono ?_);(case side1=>exact pS55_ HI462.out);(case side2=>exact pT55_ HB.out);rintro e w21 ⟨rfl,hi,hb,hk⟩;refine ⟨_,rfl,?_⟩;have n_:=an_ (Kd.R_mono (Kd.R_keep (IsS55.apart (show IsS55 w _ g462 Ma Xc Jd from pS55_ HI462.out) (pR_ Ja.out) (by decide)) hk (fun _ h=>h.2)) (fun _ h=>h.1))<|an_ (hb)<|D (hi);clear Ja HB HI462;obtain ⟨Ja,HB,HI462⟩:=n_;(try clear hb);(try clear hk);(try clear hi)))
   (try simp only [Act.put, List.setIfInBounds_toArray, List.set_cons_zero, List.set_cons_succ])
   go_cut [6] (fun v6 wc=>∃ (kq:Nat) (x6_19:List (S43)),Aside0 (spec_DrawChainCost.j1 kq x6_19 Ma Oc Uc=some (r1,r2,r3))∧Aside0 (kq≤kj4)∧Aside0 (Kd.R k43 43 wc w.heap.size (fun _=>True) v6 x6_19)∧Aside0 (IsS55 w wc g462 Ma Oc Uc)∧Aside0 (Below w.heap.size w wc))
   case first =>
    have H := HC20.out; clear HC20
    by_cases c22 : Mh = true
    ·subst c22
     rw [if_pos rfl] at H
     by_cases c23 : x6_4.length < 2932031007402
     ·rw [if_pos c23] at H
      have LMc23 := D c23; clear c23; obtain ⟨y481, hy481⟩ : ∃ y_ : List (S43), y_ = (x6_4 ++ [(⟨(⟨0, 0, 0⟩ : S29), (⟨0, 0, 0⟩ : S29)⟩ : S43)]) := ⟨_, rfl⟩
      replace H:(spec_DrawChainCost.j1 kj4 y481 Ma Oc Uc)=some (r1,r2,r3):=by first|(rw [hy481];with_reducible exact H)|(have H2_:=(Option.bind_some _ _).symm.trans H;rw [hy481];with_reducible exact H2_)|(have H2_:=(Option.bind_some _ _).symm.trans H;with_reducible exact H2_)|with_reducible exact H|(rw [hy481];exact H)|exact H
      have Ny481 := D hy481; clear hy481; have H' := D H; clear H
      go_wp2_with (first|((with_reducible refine gate_builtin (b:=.append) (xs:=#[.tmp 24,.tmp 26]) rfl ?_);at_builtin;refine Kd.R_append k43 (w0:=w) w.heap.size rfl (.tmp 24) (.tmp 26) 24 43 (.agg #[(I L 0),(I L 0),(I L 0),(I L 0),(I L 0),(I L 0)]) 48 rfl Try.underlying24 info43 rfl (by decide) (by omega) Xg x6_4 (⟨(⟨0,0,0⟩:S29),(⟨0,0,0⟩:S29)⟩:S43) [I L 0,I L 0,I L 0,I L 0,I L 0,I L 0] (fun _=>True) (fun _=>False) rfl rfl ?aP (fun _ hk=>hk.elim) ?aF ?aO ?aB ?aS ?aL ?_;(case aP=>exact k43_mkM _ _ _ (⟨(⟨0,0,0⟩:S29),(⟨0,0,0⟩:S29)⟩:S43));(case aB=>exact (pT55_ HB.out));(case aF=>exact (fun _ _=>trivial));(case aO=>exact (pR_ Ja.out));(case aS=>exact (below_size (pT55_ HB.out)));(case aL=>have:=LMc23.out;omega);intro Xh w24 ho hb hg hat;rw [← Ny481.out] at ho;have n_:=an_ (IsS55.grown (pU55_ HI462.out) hg (IsS55.own_ne HI462.out Ja.out (by decide)))<|an_ (hb)<|D (ho);clear HI462 HB Ja;obtain ⟨HI462,HB,Oh⟩:=n_;clear ho hb hg hat))
      go_meet
      case rel => exact ⟨_, (y481), H', ⟨by have := HJ4.out; first | omega | exact Nat.le_refl _⟩, ⟨pR_ Oh.out⟩, ⟨pS55_ HI462.out⟩, ⟨pT55_ HB.out⟩⟩
     ·rw [if_neg c23] at H
      exact absurd H (by simp)
    ·replace c22 := Bool.eq_false_iff.mpr c22
     subst c22; rw [if_neg (show ¬ (false = true) by decide)] at H; have H' := D H; clear H
     go_wp2
     go_meet
     case rel => exact ⟨_, (x6_4), H', ⟨by have := HJ4.out; first | omega | exact Nat.le_refl _⟩, ⟨pR_ Ja.out⟩, ⟨pS55_ HI462.out⟩, ⟨pT55_ HB.out⟩⟩
   case rest =>
    clear HC20
    (try clear c1);(try clear p1);(try clear q1);(try clear hx1);(try clear hf1);(try clear c2);(try clear p2);(try clear c5);(try clear c8);(try clear c9);(try clear c10);(try clear c11);(try clear c12);(try clear c12b0);(try clear c13);(try clear c13b0);(try clear c14);(try clear p14);(try clear q14);(try clear hx14);(try clear hf14);(try clear c17);(try clear hx17);(try clear hf17);(try clear c22);(try clear c23);(try clear hx14_0 hx14_1 hx14_2 hx14_3 hx14_4 hx14_5);(try clear hx17_0);(try clear p1);(try clear p14);(try clear p2);(try clear q1);(try clear q14)
    obtain ⟨kq, x6_19, HA, HJ19, Ja, HI462, HB⟩ := hcut
    cases kq with
    | zero => exact absurd HA.out (by simp [spec_DrawChainCost.j1])
    | succ kj19 =>
     have H:=HA.out;clear HA;simp only [spec_DrawChainCost.j1] at H;obtain ⟨⟨Xf,Md,Od⟩,A250,H⟩:=bs_.mp H;(try dsimp only at H);have A25:=D A250;clear A250;obtain ⟨⟨Mb,Ud,Xd⟩,A260,H⟩:=bs_.mp H;(try dsimp only at H);have A26:=D A260;clear A260;obtain ⟨⟨Ob,Je,Ke⟩,A270,H⟩:=bs_.mp H;(try dsimp only at H);have A27:=D A270;clear A270;obtain ⟨⟨Ub,Xb,Jc⟩,A280,H⟩:=bs_.mp H;(try dsimp only at H);have A28:=D A280;clear A280;obtain ⟨y498,hy498⟩:∃ y_:List Int,y_=(([Mb,Ob,1600,Ub]:List Int)):=⟨_,rfl⟩
     replace H:((spec_l01Cur_pick.f Ma Xb Jc 4).bind fun bt501=>(if 0≤bt501.1 then (if bt501.1 < (y498.length:Int) then (some (x6_19,Xf,rd y498 bt501.1)) else (none)) else (none)))=some (r1,r2,r3):=by first|(rw [hy498];with_reducible exact H)|(have H2_:=(Option.bind_some _ _).symm.trans H;rw [hy498];with_reducible exact H2_)|(have H2_:=(Option.bind_some _ _).symm.trans H;with_reducible exact H2_)|with_reducible exact H|(rw [hy498];exact H)|exact H
     have Ny498 := D hy498; clear hy498; obtain ⟨⟨Jb, Jg, Kg⟩, A290, H⟩ := bs_.mp H; (try dsimp only at H); have A29 := D A290; clear A290
     by_cases c30 : 0 ≤ Jb
     ·rw [if_pos c30] at H
      have c30b0 : decide (0 ≤ Jb) = true := decide_eq_true c30; clear c30
      by_cases c31 : Jb < (y498.length : Int)
      ·rw [if_pos c31] at H
       have c31b0 : decide (Jb < (y498.length : Int)) = true := decide_eq_true c31; clear c31; simp only [Option.some.injEq, Prod.mk.injEq] at H; obtain ⟨rfl, rfl, rfl⟩ := H
       try go_wp2_with (first|((with_reducible refine gate_callee (f:=13) rfl ?_);refine goesL_ (some 29) rfl rfl Try.func13 (by kernel_rfl) rfl #[.pointer (some ⟨g462,0,none⟩),I L 4,I L 9] rfl Z15 ?_;(with_reducible refine (spec_l01Cur_chain.calls kj19 g462 Ma Oc Uc 4 9 Xf Md Od w _ ?side1 ?side2 A25.out).mono ?_);(case side1=>exact pS55_ HI462.out);(case side2=>exact pT55_ HB.out);rintro e w32 ⟨Ue,rfl,ho0,hi,hb,hk⟩;refine ⟨_,rfl,?_⟩;have n_:=an_ (Kd.R_mono (Kd.R_keep (IsS55.apart (show IsS55 w _ g462 Ma Oc Uc from pS55_ HI462.out) (pR_ Ja.out) (by decide)) hk (fun _ h=>h.2)) (fun _ h=>h.1))<|an_ (Kd.R_lower ho0 (below_size (pT55_ HB.out)))<|an_ (hb)<|D (hi);clear Ja HB HI462;obtain ⟨Ja,Oa,HB,HI462⟩:=n_;(try clear hb);(try clear hk);(try clear hi);(try clear ho0)))
       have pi504 : (0 ≤ (Jb : Int)) = True := eq_true (od_ Z21); have qi504 : (Jb < (y498.length : Int)) = True := eq_true (od_ Z21)
       have n_ := an_ (Kd.R_drew Ja.out) <| an_ (Kd.R_drew Oa.out) <| an_ (IsS55.drew HI462.out) <| D (below_drew1 HB.out)
       clear Ja Oa HI462 HB;obtain ⟨Ja,Oa,HI462,HB⟩:=n_;refine start_ (n:=16) (S:=fun w'=>True) (ds:=[]) #[false,false,false,false,false,false,false,false,false,false,false,false,false,false,false,false] (by kernel_rfl) rfl rfl trivial (fun hHeld=>?_);refine with_tabW spec_DrawChainCost.tab8 spec_DrawChainCost.bits8 (fun HT_ HW_=>?_);generalize w32.drew=w33 at Ja Oa HI462 HB hHeld ⊢;refine pure_ (i:=0) (N:=some 30) (v:=?_) (a':=?_) #[true,false,false,false,false,false,false,false,false,false,false,false,false,false,false,false] rfl rfl (any_of HT_.out (by kernel_rfl)) (fun _ _ _ h=>h) (Or.inl ⟨by rfl,?_⟩) ?_ ?_;rotate_left
       ·intro w'
        go_simp
        with_reducible rfl
       rotate_left
       ·simp only [Act.put, List.setIfInBounds_toArray, List.set_cons_zero, List.set_cons_succ, i64_w, i32_w]
        rfl
       refine pure_ (i:=1) (N:=some 31) (v:=?_) (a':=?_) #[true,true,false,false,false,false,false,false,false,false,false,false,false,false,false,false] rfl rfl (any_of HT_.out (by kernel_rfl)) (fun _ _ _ h=>h) (Or.inl ⟨by rfl,?_⟩) ?_ ?_;rotate_left
       ·intro w'
        go_simp
        with_reducible rfl
       rotate_left
       ·simp only [Act.put, List.setIfInBounds_toArray, List.set_cons_zero, List.set_cons_succ, i64_w, i32_w]
        rfl
       refine pure_ (i:=2) (N:=some 32) (v:=?_) (a':=?_) #[true,true,true,false,false,false,false,false,false,false,false,false,false,false,false,false] rfl rfl (any_of HT_.out (by kernel_rfl)) (fun _ _ _ h=>h) (Or.inl ⟨by rfl,?_⟩) ?_ ?_;rotate_left
       ·intro w'
        go_simp
        with_reducible rfl
       rotate_left
       ·simp only [Act.put, List.setIfInBounds_toArray, List.set_cons_zero, List.set_cons_succ, i64_w, i32_w]
        rfl
       refine pure_ (i:=4) (N:=some 34) (v:=?_) (a':=?_) #[true,true,true,false,true,false,false,false,false,false,false,false,false,false,false,false] rfl rfl (any_of HT_.out (by kernel_rfl)) (fun _ _ _ h=>h) (Or.inl ⟨by rfl,?_⟩) ?_ ?_;rotate_left
       ·intro w'
        go_simp
        with_reducible rfl
       rotate_left
       ·simp only [Act.put, List.setIfInBounds_toArray, List.set_cons_zero, List.set_cons_succ, i64_w, i32_w]
        rfl
       refine pure_ (i:=6) (N:=some 36) (v:=?_) (a':=?_) #[true,true,true,false,true,false,true,false,false,false,false,false,false,false,false,false] rfl rfl (any_of HT_.out (by kernel_rfl)) (fun _ _ _ h=>h) (Or.inl ⟨by rfl,?_⟩) ?_ ?_;rotate_left
       ·intro w'
        go_simp
        with_reducible rfl
       rotate_left
       ·simp only [Act.put, List.setIfInBounds_toArray, List.set_cons_zero, List.set_cons_succ, i64_w, i32_w]
        rfl
       refine pure_ (i:=9) (N:=some 39) (v:=?_) (a':=?_) #[true,true,true,false,true,false,true,false,false,true,false,false,false,false,false,false] rfl rfl (any_of HT_.out (by kernel_rfl)) (fun _ _ _ h=>h) (Or.inl ⟨by rfl,?_⟩) ?_ ?_;rotate_left
       ·intro w'
        go_simp
        with_reducible rfl
       rotate_left
       ·simp only [Act.put, List.setIfInBounds_toArray, List.set_cons_zero, List.set_cons_succ, i64_w, i32_w]
        rfl
       refine inv_at [3,5,7,8,10,11,12,13,14,15] (fun a0_ b a w'=>∃ (Xa:Value) (adz_v499:Addr) (m11_:Value),a=putSel a0_ b [(3,33,I L Mb),(5,35,I L Ob),(7,37,I L Ub),(8,38,Xa),(10,40,I L Jb),(11,41,m11_),(12,42,I L (rd y498 Jb)),(13,2,u6),(14,3,Ue),(15,4,I L (rd y498 Jb))]∧(Kd.R k36 36 w' w.heap.size (fun _=>True) Ue Xf)∧(Kd.R k43 43 w' w.heap.size (fun _=>True) u6 x6_19)∧(b 3=false → IsS55 w w' g462 Ma Md Od)∧(Below w.heap.size w w')∧(b 3=true → b 5=false → IsS55 w w' g462 Ma Ud Xd)∧(b 5=true → b 7=false → IsS55 w w' g462 Ma Je Ke)∧(b 7=true → b 10=false → IsS55 w w' g462 Ma Xb Jc)∧(b 8=true → Kd.R (Kd.int .i64) 3 w' w.heap.size (fun _=>True) Xa y498)∧(b 8=true → ∃ c_,(Xa:Value)=Y (some adz_v499) y498.length c_)∧(b 10=true → IsS55 w w' g462 Ma Jg Kg)∧(b 11=true → (m11_:Value)=.pointer (some (adz_v499.add (Jb).toNat)))) HT_.out HW_.out (by kernel_rfl) (by kernel_rfl) ?_ ?_ ?_
       ·exact ⟨.bool false,⟨0,0,none⟩,.bool false,by simp only [putSel,Bool.false_eq_true,if_false],Oa.out,Ja.out,fun _=>HI462.out,HB.out,fun h_=>absurd h_ (by decide),fun h_=>absurd h_ (by decide),fun h_=>absurd h_ (by decide),fun h_=>absurd h_ (by decide),fun h_=>absurd h_ (by decide),fun h_=>absurd h_ (by decide),fun h_=>absurd h_ (by decide)⟩
       ·skip
        clear HB HI462 Oa Ja; refine steps_cons ?_ ?_
        ·rintro b a w' ⟨Xa, adz_v499, m11_, ha, Q_HO486, Q_HO_6, Q_HI462, Q_HB, Q_HI462_e3, Q_HI462_e5, Q_HI462_e7, Q_HO500, Q_HA_HO500, Q_HI462_e10, Q_X11_⟩ hb_ hon hoff
         refine ⟨_, rfl, fun K hK => ?_⟩
         have e32 : a.tmps[32]? = some (.pointer (some ⟨g462, 0, none⟩)) := by rw [ha]; exact (putSel_off rfl).trans rfl
         replace ha:=D ha;have Oa:=D Q_HO486;have Ja:=D Q_HO_6;have HI462:=D (Q_HI462 hb_);have HB:=D Q_HB;refine goes_ Try.func14 (by kernel_rfl) rfl #[.pointer (some ⟨g462,0,none⟩),I L 1600] (by rfl) rfl rfl Z9 ?_;with_reducible refine (spec_l01Cur_wide.calls g462 Ma Md Od 1600 Mb Ud Xd w _ ?side1 ?side2 A26.out).mono ?_
         (case side1 => exact pS55_ HI462.out); (case side2 => exact pT55_ HB.out); rintro e w34 ⟨rfl, hi, hb, hk⟩; refine ⟨_, rfl, ?_⟩
         have n_:=an_ (Kd.R_mono (Kd.R_keep (IsS55.apart (show IsS55 w _ g462 Ma Md Od from pS55_ HI462.out) (pR_ Ja.out) (by decide)) hk (fun _ h=>h.2)) (fun _ h=>h.1))<|an_ (Kd.R_mono (Kd.R_keep (IsS55.apart (show IsS55 w _ g462 Ma Md Od from pS55_ HI462.out) (pR_ Oa.out) (by decide)) hk (fun _ h=>h.2)) (fun _ h=>h.1))<|an_ (hb)<|D (hi)
         clear Ja Oa HB HI462;obtain ⟨Ja,Oa,HB,HI462⟩:=n_;refine hK.out _ _ ⟨Xa,adz_v499,m11_,(by rw [ha.out];exact putSel_upk 0 hb_ rfl rfl rfl),(pR_ Oa.out),(pR_ Ja.out),fun h0_=>absurd ((up_self b 3).symm.trans h0_) (by decide),(pT55_ HB.out),fun _ _=>(pS55_ HI462.out),fun h0_ _=>absurd ((hoff 5 (by kernel_rfl)).symm.trans h0_) (by decide),fun h0_ _=>absurd ((hoff 7 (by kernel_rfl)).symm.trans h0_) (by decide),fun h0_=>absurd ((hoff 8 (by kernel_rfl)).symm.trans h0_) (by decide),fun h0_=>absurd ((hoff 8 (by kernel_rfl)).symm.trans h0_) (by decide),fun h0_=>absurd ((hoff 10 (by kernel_rfl)).symm.trans h0_) (by decide),fun h0_=>absurd ((hoff 11 (by kernel_rfl)).symm.trans h0_) (by decide)⟩
        refine steps_cons ?_ ?_
        ·rintro b a w' ⟨Xa, adz_v499, m11_, ha, Q_HO486, Q_HO_6, Q_HI462, Q_HB, Q_HI462_e3, Q_HI462_e5, Q_HI462_e7, Q_HO500, Q_HA_HO500, Q_HI462_e10, Q_X11_⟩ hb_ hon hoff
         refine ⟨_, rfl, fun K hK => ?_⟩
         have e34 : a.tmps[34]? = some (.pointer (some ⟨g462, 0, none⟩)) := by rw [ha]; exact (putSel_off rfl).trans rfl
         replace ha:=D ha;have Oa:=D Q_HO486;have Ja:=D Q_HO_6;have HB:=D Q_HB;have HI462:=D (Q_HI462_e3 (hon 3 (by kernel_rfl)) hb_);refine goes_ Try.func14 (by kernel_rfl) rfl #[.pointer (some ⟨g462,0,none⟩),I L 1600] (by rfl) rfl rfl (by first|(simp only [List.map_toArray,List.map_cons,List.map_nil,Act.eval,Array.getD_eq_getD_getElem?,Option.getD_some,e34];done)|(simp only [List.map_toArray,List.map_cons,List.map_nil,Act.eval,Array.getD_eq_getD_getElem?,Option.getD_some,e34];rfl)) ?_;with_reducible refine (spec_l01Cur_wide.calls g462 Ma Ud Xd 1600 Ob Je Ke w _ ?side1 ?side2 A27.out).mono ?_
         (case side1 => exact pS55_ HI462.out); (case side2 => exact pT55_ HB.out); rintro e w36 ⟨rfl, hi, hb, hk⟩; refine ⟨_, rfl, ?_⟩
         have n_:=an_ (Kd.R_mono (Kd.R_keep (IsS55.apart (show IsS55 w _ g462 Ma Ud Xd from pS55_ HI462.out) (pR_ Ja.out) (by decide)) hk (fun _ h=>h.2)) (fun _ h=>h.1))<|an_ (Kd.R_mono (Kd.R_keep (IsS55.apart (show IsS55 w _ g462 Ma Ud Xd from pS55_ HI462.out) (pR_ Oa.out) (by decide)) hk (fun _ h=>h.2)) (fun _ h=>h.1))<|an_ (hb)<|D (hi)
         clear Ja Oa HB HI462;obtain ⟨Ja,Oa,HB,HI462⟩:=n_;refine hK.out _ _ ⟨Xa,adz_v499,m11_,(by rw [ha.out];exact putSel_upk 1 hb_ rfl rfl rfl),(pR_ Oa.out),(pR_ Ja.out),fun h0_=>absurd ((hon 3 (by kernel_rfl)).symm.trans h0_) (by decide),(pT55_ HB.out),fun _ h1_=>absurd ((up_self b 5).symm.trans h1_) (by decide),fun _ _=>(pS55_ HI462.out),fun h0_ _=>absurd ((hoff 7 (by kernel_rfl)).symm.trans h0_) (by decide),fun h0_=>absurd ((hoff 8 (by kernel_rfl)).symm.trans h0_) (by decide),fun h0_=>absurd ((hoff 8 (by kernel_rfl)).symm.trans h0_) (by decide),fun h0_=>absurd ((hoff 10 (by kernel_rfl)).symm.trans h0_) (by decide),fun h0_=>absurd ((hoff 11 (by kernel_rfl)).symm.trans h0_) (by decide)⟩
        refine steps_cons ?_ ?_
        ·rintro b a w' ⟨Xa, adz_v499, m11_, ha, Q_HO486, Q_HO_6, Q_HI462, Q_HB, Q_HI462_e3, Q_HI462_e5, Q_HI462_e7, Q_HO500, Q_HA_HO500, Q_HI462_e10, Q_X11_⟩ hb_ hon hoff
         refine ⟨_, rfl, fun K hK => ?_⟩
         have e36 : a.tmps[36]? = some (.pointer (some ⟨g462, 0, none⟩)) := by rw [ha]; exact (putSel_off rfl).trans rfl
         replace ha:=D ha;have Oa:=D Q_HO486;have Ja:=D Q_HO_6;have HB:=D Q_HB;have HI462:=D (Q_HI462_e5 (hon 5 (by kernel_rfl)) hb_);refine goes_ Try.func11 (by kernel_rfl) rfl #[.pointer (some ⟨g462,0,none⟩)] (by rfl) rfl rfl (by first|(simp only [List.map_toArray,List.map_cons,List.map_nil,Act.eval,Array.getD_eq_getD_getElem?,Option.getD_some,e36];done)|(simp only [List.map_toArray,List.map_cons,List.map_nil,Act.eval,Array.getD_eq_getD_getElem?,Option.getD_some,e36];rfl)) ?_;with_reducible refine (spec_l01Cur_raw.calls g462 Ma Je Ke Ub Xb Jc w _ ?side1 ?side2 A28.out).mono ?_
         (case side1 => exact pS55_ HI462.out); (case side2 => exact pT55_ HB.out); rintro e w37 ⟨rfl, hi, hb, hk⟩; refine ⟨_, rfl, ?_⟩
         have n_:=an_ (Kd.R_mono (Kd.R_keep (IsS55.apart (show IsS55 w _ g462 Ma Je Ke from pS55_ HI462.out) (pR_ Ja.out) (by decide)) hk (fun _ h=>h.2)) (fun _ h=>h.1))<|an_ (Kd.R_mono (Kd.R_keep (IsS55.apart (show IsS55 w _ g462 Ma Je Ke from pS55_ HI462.out) (pR_ Oa.out) (by decide)) hk (fun _ h=>h.2)) (fun _ h=>h.1))<|an_ (hb)<|D (hi)
         clear Ja Oa HB HI462;obtain ⟨Ja,Oa,HB,HI462⟩:=n_;refine hK.out _ _ ⟨Xa,adz_v499,m11_,(by rw [ha.out];exact putSel_upk 2 hb_ rfl rfl rfl),(pR_ Oa.out),(pR_ Ja.out),fun h0_=>absurd ((hon 3 (by kernel_rfl)).symm.trans h0_) (by decide),(pT55_ HB.out),fun _ h1_=>absurd ((hon 5 (by kernel_rfl)).symm.trans h1_) (by decide),fun _ h1_=>absurd ((up_self b 7).symm.trans h1_) (by decide),fun _ _=>(pS55_ HI462.out),fun h0_=>absurd ((hoff 8 (by kernel_rfl)).symm.trans h0_) (by decide),fun h0_=>absurd ((hoff 8 (by kernel_rfl)).symm.trans h0_) (by decide),fun h0_=>absurd ((hoff 10 (by kernel_rfl)).symm.trans h0_) (by decide),fun h0_=>absurd ((hoff 11 (by kernel_rfl)).symm.trans h0_) (by decide)⟩
        refine steps_cons ?_ ?_
        ·rintro b a w' ⟨Xa, adz_v499, m11_, ha, Q_HO486, Q_HO_6, Q_HI462, Q_HB, Q_HI462_e3, Q_HI462_e5, Q_HI462_e7, Q_HO500, Q_HA_HO500, Q_HI462_e10, Q_X11_⟩ hb_ hon hoff
         refine ⟨_, rfl, fun K hK => ?_⟩
         have e33 : a.tmps[33]? = some (I L Mb) := by rw [ha]; exact putSel_on (e := (3, 33, I L Mb)) 0 rfl rfl (hon 3 (by kernel_rfl)) rfl
         have e35 : a.tmps[35]? = some (I L Ob) := by rw [ha]; exact putSel_on (e := (5, 35, I L Ob)) 1 rfl rfl (hon 5 (by kernel_rfl)) rfl
         have e37 : a.tmps[37]? = some (I L Ub) := by rw [ha]; exact putSel_on (e := (7, 37, I L Ub)) 2 rfl rfl (hon 7 (by kernel_rfl)) rfl
         replace ha:=D ha;have Oa:=D Q_HO486;have Ja:=D Q_HO_6;have HB:=D Q_HB;refine Kd.R_lit_step (Kd.int .i64) _ 3 ?hg (N:=38) ?hd (xs:=([Mb,Ob,1600,Ub]:List Int)) (inner:=[I L Mb,I L Ob,I L 1600,I L Ub]) (ok:=fun _=>True) (okp:=fun _=>True) ?hr ?hp (fun _ hk=>hk) trivial (Below.refl _ _) (Nat.le_refl _) (by simp) ?_;(case hd=>rfl);(case hg=>rfl);(case hr=>first|(go_simp;done)|(go_simp;rfl));(case hp=>exact (Reps.one (show Kd.M (Kd.int .i64) _ _ _ Mb [I L Mb] from rfl) (Reps.one (show Kd.M (Kd.int .i64) _ _ _ Ob [I L Ob] from rfl) (Reps.one (show Kd.M (Kd.int .i64) _ _ _ 1600 [I L 1600] from rfl) (Reps.one (show Kd.M (Kd.int .i64) _ _ _ Ub [I L Ub] from rfl) (Reps.none _ _))))));intro Xa w38 ho39 hb hg_ hnew_;clear hg_ hnew_;(first|rw [← Ny498.out] at ho39|(simp only [Int.reduceToNat] at ho39;rw [← Ny498.out] at ho39));have n0_:=D (Kd.R_below (pR_ Ja.out) hb);have n1_:=D (Kd.R_below (pR_ Oa.out) hb);have n2_:=D (Kd.R_lower ho39 (below_size (pB_ HB.out)));have n4_:=D (below_step (pB_ HB.out) hb)
         have z_HI462_e7:=fun (h0_:b 7=true) (h1_:b 10=false)=>(show IsS55 w w38 g462 Ma Xb Jc from by first|exact (IsS55.below (by repeat (first|(with_reducible first|exact (Q_HI462_e7 h0_ h1_)|apply IsS55.alloc|apply IsS55.drewN|apply IsS55.drew|apply IsS55.set_1|apply IsS55.set_2)|exact (Q_HI462_e7 h0_ h1_))) hb))
         have z_HI462_e10:=fun (h0_:b 10=true)=>(show IsS55 w w38 g462 Ma Jg Kg from by first|exact (IsS55.below (by repeat (first|(with_reducible first|exact (Q_HI462_e10 h0_)|apply IsS55.alloc|apply IsS55.drewN|apply IsS55.drew|apply IsS55.set_1|apply IsS55.set_2)|exact (Q_HI462_e10 h0_))) hb))
         clear Ja;clear Oa;clear HB;have Ja:=n0_;have Oa:=n1_;have Kc:=n2_;have HB:=n4_;clear n0_ n1_ n2_ n4_;clear hb ho39;obtain ⟨Ji,Uh,eo40⟩:=Kd.R_slice Kc.out;subst eo40;obtain ⟨ado40,fo40,_⟩:=Kd.at_int (Kd.R_reads' Kc.out).2.2 0 (by decide) (by rw [Ny498.out];simp)
         cases fo40
         refine hK.out _ _ ⟨Y (some ado40) y498.length Uh,ado40,m11_,(by rw [ha.out];exact putSel_upk 3 hb_ rfl rfl rfl),(pR_ Oa.out),(pR_ Ja.out),fun h0_=>absurd ((hon 3 (by kernel_rfl)).symm.trans h0_) (by decide),(pB_ HB.out),fun _ h1_=>absurd ((hon 5 (by kernel_rfl)).symm.trans h1_) (by decide),fun _ h1_=>absurd ((hon 7 (by kernel_rfl)).symm.trans h1_) (by decide),z_HI462_e7,fun _=>(pR_ Kc.out),fun _=>⟨_,rfl⟩,z_HI462_e10,fun h0_=>absurd ((hoff 11 (by kernel_rfl)).symm.trans h0_) (by decide)⟩
        refine steps_cons ?_ ?_
        ·rintro b a w' ⟨Xa, adz_v499, m11_, ha, Q_HO486, Q_HO_6, Q_HI462, Q_HB, Q_HI462_e3, Q_HI462_e5, Q_HI462_e7, Q_HO500, Q_HA_HO500, Q_HI462_e10, Q_X11_⟩ hb_ hon hoff
         refine ⟨_, rfl, fun K hK => ?_⟩
         have e39 : a.tmps[39]? = some (.pointer (some ⟨g462, 0, none⟩)) := by rw [ha]; exact (putSel_off rfl).trans rfl
         replace ha:=D ha;have Oa:=D Q_HO486;have Ja:=D Q_HO_6;have HB:=D Q_HB;have HI462:=D (Q_HI462_e7 (hon 7 (by kernel_rfl)) hb_);refine goes_ Try.func12 (by kernel_rfl) rfl #[.pointer (some ⟨g462,0,none⟩),I L 4] (by rfl) rfl rfl Z10 ?_;with_reducible refine (spec_l01Cur_pick.calls g462 Ma Xb Jc 4 Jb Jg Kg w _ ?side1 ?side2 A29.out).mono ?_
         (case side1=>exact pS55_ HI462.out);(case side2=>exact pT55_ HB.out);rintro e w38 ⟨rfl,hi,hb,hk⟩;refine ⟨_,rfl,?_⟩;have n0_:=D (Kd.R_mono (Kd.R_keep (IsS55.apart (show IsS55 w _ g462 Ma Xb Jc from pS55_ HI462.out) (pR_ Ja.out) (by decide)) hk (fun _ h=>h.2)) (fun _ h=>h.1));have n1_:=D (Kd.R_mono (Kd.R_keep (IsS55.apart (show IsS55 w _ g462 Ma Xb Jc from pS55_ HI462.out) (pR_ Oa.out) (by decide)) hk (fun _ h=>h.2)) (fun _ h=>h.1));have n2_:=D (hb);have n3_:=D (hi)
         have z_HO500:=fun (h0_:b 8=true)=>(show Kd.R (Kd.int .i64) 3 w38 w.heap.size (fun _=>True) Xa y498 from by first|exact (Kd.R_mono (Kd.R_keep (IsS55.apart (show IsS55 w _ g462 Ma Xb Jc from pS55_ HI462.out) (pR_ (Q_HO500 h0_)) (by decide)) hk (fun _ h=>h.2)) (fun _ h=>h.1))|exact Kd.R_mono (Kd.R_mono (Kd.R_keep (IsS55.apart (show IsS55 w _ g462 Ma Xb Jc from pS55_ HI462.out) (pR_ (Q_HO500 h0_)) (by decide)) hk (fun _ h=>h.2)) (fun _ h=>h.1)) (fun _ h_=>by first|trivial|exact h_|exact h_.1))
         clear Ja;clear Oa;clear HB;clear HI462;have Ja:=n0_;have Oa:=n1_;have HB:=n2_;have HI462:=n3_;clear n0_ n1_ n2_ n3_;refine hK.out _ _ ⟨Xa,adz_v499,m11_,(by rw [ha.out];exact putSel_upk 4 hb_ rfl rfl rfl),(pR_ Oa.out),(pR_ Ja.out),fun h0_=>absurd ((hon 3 (by kernel_rfl)).symm.trans h0_) (by decide),(pT55_ HB.out),fun _ h1_=>absurd ((hon 5 (by kernel_rfl)).symm.trans h1_) (by decide),fun _ h1_=>absurd ((hon 7 (by kernel_rfl)).symm.trans h1_) (by decide),fun _ h1_=>absurd ((up_self b 10).symm.trans h1_) (by decide),z_HO500,Q_HA_HO500,fun _=>(pS55_ HI462.out),fun h0_=>absurd ((hoff 11 (by kernel_rfl)).symm.trans h0_) (by decide)⟩
        refine steps_cons ?_ ?_
        ·rintro b a w' ⟨Xa, adz_v499, m11_, ha, Q_HO486, Q_HO_6, Q_HI462, Q_HB, Q_HI462_e3, Q_HI462_e5, Q_HI462_e7, Q_HO500, Q_HA_HO500, Q_HI462_e10, Q_X11_⟩ hb_ hon hoff
         refine ⟨_, rfl, fun K hK => ?_⟩
         have e38 : a.tmps[38]? = some (Xa) := by rw [ha]; exact putSel_on (e := (8, 38, Xa)) 3 rfl rfl (hon 8 (by kernel_rfl)) rfl
         have e40 : a.tmps[40]? = some (I L Jb) := by rw [ha]; exact putSel_on (e := (10, 40, I L Jb)) 4 rfl rfl (hon 10 (by kernel_rfl)) rfl
         replace ha:=D ha;have Oa:=D Q_HO486;have Ja:=D Q_HO_6;have HB:=D Q_HB;have Kc:=D (Q_HO500 (hon 8 (by kernel_rfl)));have HA_HO500:=D (Q_HA_HO500 (hon 8 (by kernel_rfl)));have HI462:=D (Q_HI462_e10 (hon 10 (by kernel_rfl)));obtain ⟨c_,hv_⟩:=HA_HO500.out;rw [hv_] at e38;refine value_ (w1:=w') (v:=.pointer (some (adz_v499.add (Jb).toNat))) (by rfl) rfl ?_ ?_
         ·go_simp
          (try simp only [i64_w])
          try rfl
         refine hK.out _ _ ⟨Xa,adz_v499,(.pointer (some (adz_v499.add (Jb).toNat))),(by rw [ha.out];exact putSel_upk 5 hb_ rfl rfl rfl),Q_HO486,Q_HO_6,fun h0_=>absurd ((hon 3 (by kernel_rfl)).symm.trans h0_) (by decide),Q_HB,fun _ h1_=>absurd ((hon 5 (by kernel_rfl)).symm.trans h1_) (by decide),fun _ h1_=>absurd ((hon 7 (by kernel_rfl)).symm.trans h1_) (by decide),fun _ h1_=>absurd ((hon 10 (by kernel_rfl)).symm.trans h1_) (by decide),Q_HO500,Q_HA_HO500,Q_HI462_e10,fun _=>rfl⟩
        refine steps_cons ?_ ?_
        ·rintro b a w' ⟨Xa, adz_v499, m11_, ha, Q_HO486, Q_HO_6, Q_HI462, Q_HB, Q_HI462_e3, Q_HI462_e5, Q_HI462_e7, Q_HO500, Q_HA_HO500, Q_HI462_e10, Q_X11_⟩ hb_ hon hoff
         refine ⟨_, rfl, fun K hK => ?_⟩
         have e41 : a.tmps[41]? = some (m11_) := by rw [ha]; exact putSel_on (e := (11, 41, m11_)) 5 rfl rfl (hon 11 (by kernel_rfl)) rfl
         rw [Q_X11_ (hon 11 (by kernel_rfl))] at e41;replace ha:=D ha;have Oa:=D Q_HO486;have Ja:=D Q_HO_6;have HB:=D Q_HB;have Kc:=D (Q_HO500 (hon 8 (by kernel_rfl)));have HA_HO500:=D (Q_HA_HO500 (hon 8 (by kernel_rfl)));have HI462:=D (Q_HI462_e10 (hon 10 (by kernel_rfl)));obtain ⟨c_,hv_⟩:=HA_HO500.out;have hF_:=Kc.out;rw [hv_] at hF_;obtain ⟨ad_,ea_,hx_⟩:=Kd.at_int (Kd.R_reads' hF_).2.2 Jb (of_eq_true pi504) (of_eq_true qi504);cases ea_;refine value_ (w1:=w') (v:=I L (rd y498 Jb)) (by rfl) rfl ?_ ?_
         ·go_simp
          (try simp only [i64_w])
          try rfl
         refine hK.out _ _ ⟨Xa,adz_v499,m11_,(by rw [ha.out];exact putSel_upk 6 hb_ rfl rfl rfl),Q_HO486,Q_HO_6,fun h0_=>absurd ((hon 3 (by kernel_rfl)).symm.trans h0_) (by decide),Q_HB,fun _ h1_=>absurd ((hon 5 (by kernel_rfl)).symm.trans h1_) (by decide),fun _ h1_=>absurd ((hon 7 (by kernel_rfl)).symm.trans h1_) (by decide),fun _ h1_=>absurd ((hon 10 (by kernel_rfl)).symm.trans h1_) (by decide),Q_HO500,Q_HA_HO500,Q_HI462_e10,Q_X11_⟩
        refine steps_cons ?_ ?_
        ·rintro b a w' ⟨Xa, adz_v499, m11_, ha, Q_HO486, Q_HO_6, Q_HI462, Q_HB, Q_HI462_e3, Q_HI462_e5, Q_HI462_e7, Q_HO500, Q_HA_HO500, Q_HI462_e10, Q_X11_⟩ hb_ hon hoff
         refine ⟨_, rfl, fun K hK => ?_⟩
         have e30 : a.tmps[30]? = some (u6) := by rw [ha]; exact (putSel_off rfl).trans rfl
         replace ha:=D ha;have Oa:=D Q_HO486;have Ja:=D Q_HO_6;have HB:=D Q_HB;have HI462:=D (Q_HI462_e10 (hon 10 (by kernel_rfl)));refine value_ (w1:=w') (v:=u6) (by rfl) rfl ?_ ?_
         ·go_simp
          (try simp only [i64_w])
          try rfl
         refine hK.out _ _ ⟨Xa,adz_v499,m11_,(by rw [ha.out];exact putSel_upk 7 hb_ rfl rfl rfl),Q_HO486,Q_HO_6,fun h0_=>absurd ((hon 3 (by kernel_rfl)).symm.trans h0_) (by decide),Q_HB,fun _ h1_=>absurd ((hon 5 (by kernel_rfl)).symm.trans h1_) (by decide),fun _ h1_=>absurd ((hon 7 (by kernel_rfl)).symm.trans h1_) (by decide),fun _ h1_=>absurd ((hon 10 (by kernel_rfl)).symm.trans h1_) (by decide),Q_HO500,Q_HA_HO500,Q_HI462_e10,Q_X11_⟩
        refine steps_cons ?_ ?_
        ·rintro b a w' ⟨Xa, adz_v499, m11_, ha, Q_HO486, Q_HO_6, Q_HI462, Q_HB, Q_HI462_e3, Q_HI462_e5, Q_HI462_e7, Q_HO500, Q_HA_HO500, Q_HI462_e10, Q_X11_⟩ hb_ hon hoff
         refine ⟨_, rfl, fun K hK => ?_⟩
         have e31 : a.tmps[31]? = some (Ue) := by rw [ha]; exact (putSel_off rfl).trans rfl
         replace ha:=D ha;have Oa:=D Q_HO486;have Ja:=D Q_HO_6;have HB:=D Q_HB;have HI462:=D (Q_HI462_e10 (hon 10 (by kernel_rfl)));refine value_ (w1:=w') (v:=Ue) (by rfl) rfl ?_ ?_
         ·go_simp
          (try simp only [i64_w])
          try rfl
         refine hK.out _ _ ⟨Xa,adz_v499,m11_,(by rw [ha.out];exact putSel_upk 8 hb_ rfl rfl rfl),Q_HO486,Q_HO_6,fun h0_=>absurd ((hon 3 (by kernel_rfl)).symm.trans h0_) (by decide),Q_HB,fun _ h1_=>absurd ((hon 5 (by kernel_rfl)).symm.trans h1_) (by decide),fun _ h1_=>absurd ((hon 7 (by kernel_rfl)).symm.trans h1_) (by decide),fun _ h1_=>absurd ((hon 10 (by kernel_rfl)).symm.trans h1_) (by decide),Q_HO500,Q_HA_HO500,Q_HI462_e10,Q_X11_⟩
        refine steps_cons ?_ ?_
        ·rintro b a w' ⟨Xa, adz_v499, m11_, ha, Q_HO486, Q_HO_6, Q_HI462, Q_HB, Q_HI462_e3, Q_HI462_e5, Q_HI462_e7, Q_HO500, Q_HA_HO500, Q_HI462_e10, Q_X11_⟩ hb_ hon hoff
         refine ⟨_, rfl, fun K hK => ?_⟩
         have e42 : a.tmps[42]? = some (I L (rd y498 Jb)) := by rw [ha]; exact putSel_on (e := (12, 42, I L (rd y498 Jb))) 6 rfl rfl (hon 12 (by kernel_rfl)) rfl
         replace ha:=D ha;have Oa:=D Q_HO486;have Ja:=D Q_HO_6;have HB:=D Q_HB;have Kc:=D (Q_HO500 (hon 8 (by kernel_rfl)));have HA_HO500:=D (Q_HA_HO500 (hon 8 (by kernel_rfl)));have HI462:=D (Q_HI462_e10 (hon 10 (by kernel_rfl)));refine value_ (w1:=w') (v:=I L (rd y498 Jb)) (by rfl) rfl ?_ ?_
         ·go_simp
          (try simp only [i64_w])
          try rfl
         refine hK.out _ _ ⟨Xa,adz_v499,m11_,(by rw [ha.out];exact putSel_upk 9 hb_ rfl rfl rfl),Q_HO486,Q_HO_6,fun h0_=>absurd ((hon 3 (by kernel_rfl)).symm.trans h0_) (by decide),Q_HB,fun _ h1_=>absurd ((hon 5 (by kernel_rfl)).symm.trans h1_) (by decide),fun _ h1_=>absurd ((hon 7 (by kernel_rfl)).symm.trans h1_) (by decide),fun _ h1_=>absurd ((hon 10 (by kernel_rfl)).symm.trans h1_) (by decide),Q_HO500,Q_HA_HO500,Q_HI462_e10,Q_X11_⟩
        exact steps_nil
       rintro b a w41 hall ⟨Xa,adz_v499,m11_,ha,Q_HO486,Q_HO_6,Q_HI462,Q_HB,Q_HI462_e3,Q_HI462_e5,Q_HI462_e7,Q_HO500,Q_HA_HO500,Q_HI462_e10,Q_X11_⟩;clear HB HI462 Oa Ja;have hb3_:=hall 3 (by kernel_rfl);have hb5_:=hall 5 (by kernel_rfl);have hb7_:=hall 7 (by kernel_rfl);have hb8_:=hall 8 (by kernel_rfl);have hb10_:=hall 10 (by kernel_rfl);have hb11_:=hall 11 (by kernel_rfl);have hb12_:=hall 12 (by kernel_rfl);have hb13_:=hall 13 (by kernel_rfl);have hb14_:=hall 14 (by kernel_rfl);have hb15_:=hall 15 (by kernel_rfl);subst ha;obtain rfl:=Q_X11_ hb11_;simp only [putSel,hb3_,hb5_,hb7_,hb8_,hb10_,hb11_,hb12_,hb13_,hb14_,hb15_,if_true,Act.put,List.setIfInBounds_toArray,List.set_cons_zero,List.set_cons_succ];have Oa:=D Q_HO486;clear Q_HO486;have Ja:=D Q_HO_6;clear Q_HO_6;clear Q_HI462;have HB:=D Q_HB;clear Q_HB;clear Q_HI462_e3;clear Q_HI462_e5;clear Q_HI462_e7;have Kc:=D (Q_HO500 hb8_);clear Q_HO500;have HA_HO500:=D (Q_HA_HO500 hb8_);clear Q_HA_HO500;have HI462:=D (Q_HI462_e10 hb10_);clear Q_HI462_e10;clear hall hb3_ hb5_ hb7_ hb8_ hb10_ hb11_ hb12_ hb13_ hb14_ hb15_;obtain ⟨Ki,eo42⟩:=HA_HO500.out;clear HA_HO500;(try dsimp only at eo42);subst eo42
       try go_wp2
       go_ret3
       exact ⟨_,_,er_,by (with_reducible repeat (first|apply Kd.R_alloc|apply Kd.R_drewN|apply Kd.R_drew));exact Ja.out,by (with_reducible repeat (first|apply Kd.R_alloc|apply Kd.R_drewN|apply Kd.R_drew));exact Oa.out,pT55_ HB.out⟩
      ·rw [if_neg c31] at H
       exact absurd H (by simp)
     ·rw [if_neg c30] at H
      exact absurd H (by simp)

/-! ### spec_l03Any: function 44 -/
def spec_l03Any.f (a0_0 a0_1 a0_2 a0_3 a0_4 a0_5 : Int) : Option (Bool) := some ((a0_0 == 0 && (a0_1 == 0 && (a0_2 == 0 && (a0_3 == 0 && (a0_4 == 0))))) && (a0_5 == 0))
set_option maxHeartbeats 8000000 in
set_option maxRecDepth 100000 in
theorem spec_l03Any.calls (a0_0 a0_1 a0_2 a0_3 a0_4 a0_5 : Int) (r : Bool) (w : World) (h : spec_l03Any.f a0_0 a0_1 a0_2 a0_3 a0_4 a0_5 = some r) :
  Calls Try.prog 44 #[.agg #[I L a0_0, I L a0_1, I L a0_2, I L a0_3, I L a0_4, I L a0_5]] w fun e w' => e = .returned (.bool r) ∧ Below w.heap.size w w' := by
 have hu34 := Try.underlying34
 have HB := D (Below.refl w.heap.size w)
 have H : (some ((a0_0 == 0 && (a0_1 == 0 && (a0_2 == 0 && (a0_3 == 0 && (a0_4 == 0))))) && (a0_5 == 0))) = some r := h
 clear h
 obtain rfl := Option.some.inj H
 go_enter Try.func44, Try.ntmps44
 go_wp2_with (first|((with_reducible refine gate_dst (N:=1) rfl ?_);refine bx_ (N:=1) (cs:=#[I L a0_0,I L a0_1,I L a0_2,I L a0_3,I L a0_4,I L a0_5]) (t:=34) ?_;intro gb505 hg w2 hbox hb;have n_:=an_ (below_step (pB_ HB.out) hb)<|an_ (hbox)<|an_ (bg_ hg (pB_ HB.out):w.heap.size≤gb505)<|D (bg_ hg (pB_ HB.out):w.heap.size≤gb505);clear HB;obtain ⟨HB,BK505,GW505,GE505⟩:=n_;clear hb hbox hg;have hcz3_0:=cells6 BK505.out))
 go_ret
 exact ⟨er_, pB_ HB.out⟩

end Go.Proofs.Ytoacddcbiceeeab.PFnCostAdds
