-- by a program of this session's, over the kit's words
import Derived.Test.YtcindcakncngnaaPZFnHeapSorts
import Derived.Test.YtcindcakncngnaaPFnHeapSortsx0
import Derived.Test.YtcindcakncngnaaPFnHeapSortsx2
import Derived.Test.YtcindcakncngnaaPFnHeapSortsx4
namespace Go.Proofs.Ytcindcakncngnaa.PFnHeapSorts
open Go.RowKit Go.Proofs.YtcindcakncngnaaW.PrintWords Go.Proofs.YtcindcakncngnaaW.PrintLast Go.Proofs.YtcindcakncngnaaW.PrintMore Go.Proofs.YtcindcakncngnaaV Go.Proofs.Ytcindcakncngnaa.ZFnHeapSorts
open Go.Value renaming int → I, slice → Y
open Go.IntKind renaming i64 → L
open Aside0 renaming mk → D
open Option renaming bind_eq_some_iff → bs_
attribute [local go_sem] max2_int min2_int max_two min_two max_three min_three max_four min_four   -- for this text's walks alone
set_option linter.unusedVariables false
set_option linter.unusedSimpArgs false

/-! ### spec_l01Cur_heap: function 23 -/
def spec_l01Cur_heap.l0 : Nat → Int → List Int → Int → Int → List (S32) → Option ((List (S32)) × Int × Int)
 | 0, _, _, _, _, _ => none
 | k + 1,x4,x1000,x1001,x1002,x192000=>if x4 > 0 then ((spec_l01Cur_item.f x1000 x1001 x1002).bind fun bt195=>((spec_HeapPush.f k x192000 bt195.1 bt195.2.1).bind fun bt199=>(if bt199.2=0 then (spec_l01Cur_heap.l0 k (wrap64 (x4 - 1)) x1000 bt195.2.2.1 bt195.2.2.2 bt199.1) else (spec_l01Cur_heap.l0 k (wrap64 (x4 - 1)) x1000 bt195.2.2.1 bt195.2.2.2 x192000)))) else (some (x192000,x1001,x1002))
def spec_l01Cur_heap.f (k : Nat) (s0_0 : List Int) (s0_1 s0_2 : Int) : Option ((List (S32)) × Int × Int) := (spec_l01Cur_size.f s0_0 s0_1 s0_2 40).bind fun bt192 => (spec_l01Cur_heap.l0 k bt192.1 s0_0 bt192.2.1 bt192.2.2 ([] : List (S32)))
def spec_l01Cur_heap.T5 : Bool × List (List Nat × List Nat) := (true, [([], []), ([], []), ([1], [1]), ([0, 2, 2], [0, 2]), ([3], [3]), ([4], [4]), ([4], [4]), ([], []), ([7, 5, 3, 0, 1, 2, 3, 4, 5, 7], [5, 7]), ([6, 8, 0, 1, 2, 3, 4, 5, 6, 7, 8], [6])])
def spec_l01Cur_heap.B5 : List Nat := [0, 0, 2, 7, 15, 31, 31, 0, 191, 511]
theorem spec_l01Cur_heap.tab5 : rtab .any (opsOf Try.f23 5) = spec_l01Cur_heap.T5 := by kernel_rfl
theorem spec_l01Cur_heap.bits5 : waitsOk spec_l01Cur_heap.T5.2 spec_l01Cur_heap.B5 = true := by kernel_rfl
set_option maxHeartbeats 8000000 in
set_option maxRecDepth 100000 in
theorem spec_l01Cur_heap.calls (k g : Nat) (s0_0 : List Int) (s0_1 s0_2 : Int) (r1 : List (S32)) (r2 r3 : Int) (w0 w : World) (hI : IsS47 w0 w g s0_0 s0_1 s0_2) (hB : Below w0.heap.size w0 w) (h : spec_l01Cur_heap.f k s0_0 s0_1 s0_2 = some (r1, r2, r3)) :
  Calls Try.prog 23 #[.pointer (some ⟨g,0,none⟩)] w fun e w'=>∃ v0_:Value,e=.returned (.agg #[v0_])∧Kd.R k32 32 w' w.heap.size (fun _=>True) v0_ r1∧IsS47 w0 w' g s0_0 r2 r3∧Below w0.heap.size w0 w'∧KeepBut w w' g none:=by
 have hu26 := Try.underlying26
 have HI0 := D hI
 have HK := D (KeepBut.refl w g none)
 have HL := D hB.size
 clear hI
 have HW0 := D hB.size
 have HB := D hB
 clear hB
 have H : ((spec_l01Cur_size.f s0_0 s0_1 s0_2 40).bind fun bt192 => (spec_l01Cur_heap.l0 k bt192.1 s0_0 bt192.2.1 bt192.2.2 ([] : List (S32)))) = some (r1, r2, r3) := h
 clear h
 obtain ⟨⟨Jg, Kg, Mg⟩, A20, H⟩ := bs_.mp H
 (try dsimp only at H)
 have A2 := D A20
 clear A20
 have H' := D H
 clear H
 go_enter Try.func23, Try.ntmps23
 go_wp2_with (first|((with_reducible refine gate_dst (N:=2) rfl ?_);refine bx_ (N:=2) (cs:=#[Y none 0 0]) (t:=26) ?_;intro Kb hg w3 hbox hb;have n_:=an_ (IsS47.below (pU47_ HI0.out) hb)<|an_ (KeepBut.trans (pK_ HK.out) (KeepBut.of_below hb g none) (.inl rfl))<|an_ (below_step (pT47_ HB.out) hb)<|an_ (hbox)<|an_ ((by rw [hg];exact (keep_size (w:=w) (g:=g) (row:=none) (pK_ HK.out)):w.heap.size≤Kb))<|an_ ((Nat.le_trans HW0.out (by rw [hg];exact (keep_size (w:=w) (g:=g) (row:=none) (pK_ HK.out)):w.heap.size≤Kb):w0.heap.size≤Kb))<|an_ ((by rw [hg];exact Nat.ne_of_lt (IsS47.lt (show IsS47 w0 _ g s0_0 s0_1 s0_2 from pS47_ HI0.out)):g≠Kb))<|D (by rw [hg];exact Nat.ne_of_gt (IsS47.lt (show IsS47 w0 _ g s0_0 s0_1 s0_2 from pS47_ HI0.out)):Kb≠g);clear HI0 HK HB;obtain ⟨HI0,HK,HB,Ka,Mh,Oh,Xg,Of⟩:=n_;clear hb hbox hg)|((with_reducible refine gate_dst (N:=3) rfl ?_);refine bx_ (N:=3) (cs:=#[Y none 0 0]) (t:=26) ?_;intro Xa hg w4 hbox hb;have n_:=an_ (IsS47.below (pU47_ HI0.out) hb)<|an_ (blk_below (pk_ Ka.out) hb)<|an_ (KeepBut.trans (pK_ HK.out) (KeepBut.of_below hb g none) (.inl rfl))<|an_ (below_step (pT47_ HB.out) hb)<|an_ (hbox)<|an_ ((by rw [hg];exact (keep_size (w:=w) (g:=g) (row:=none) (pK_ HK.out)):w.heap.size≤Xa))<|an_ ((Nat.le_trans HW0.out (by rw [hg];exact (keep_size (w:=w) (g:=g) (row:=none) (pK_ HK.out)):w.heap.size≤Xa):w0.heap.size≤Xa))<|an_ (nl_ hg (pk_ Ka.out):Kb≠Xa)<|an_ (ng_ hg (pk_ Ka.out):Xa≠Kb)<|an_ ((by rw [hg];exact Nat.ne_of_lt (IsS47.lt (show IsS47 w0 _ g s0_0 s0_1 s0_2 from pS47_ HI0.out)):g≠Xa))<|D (by rw [hg];exact Nat.ne_of_gt (IsS47.lt (show IsS47 w0 _ g s0_0 s0_1 s0_2 from pS47_ HI0.out)):Xa≠g);clear HI0 Ka HK HB;obtain ⟨HI0,Ka,HK,HB,Ja,Uh,Xh,Mf,Uf,Xf,Ue⟩:=n_;clear hb hbox hg;(try have:=Uf.out);(try have:=Mf.out);(try have:=Ue.out);(try have:=Xf.out);have Jh:=cells1 Ja.out)|((with_reducible refine gate_callee (f:=33) rfl ?_);refine goesL_ (some 9) rfl rfl Try.func33 (by kernel_rfl) rfl #[.pointer (some ⟨g,0,none⟩),I L 40] rfl Z9 ?_;(with_reducible refine (spec_l01Cur_size.calls g s0_0 s0_1 s0_2 40 Jg Kg Mg w0 _ ?side1 ?side2 A2.out).mono ?_);(case side1=>exact pS47_ HI0.out);(case side2=>exact pT47_ HB.out);rintro e w8 ⟨rfl,hi,hb,hk⟩;refine ⟨_,rfl,?_⟩;have n_:=an_ (KeepBut.blk hk (g':=Kb) (o:=.cells #[Y none 0 0] 26 (0,0)) (by exact pP_ Ka.out) Of.out (by simp))<|an_ (KeepBut.blk hk (g':=Xa) (o:=.cells #[Y none 0 0] 26 (0,0)) Z13 Ue.out (by simp))<|an_ (KeepBut.trans (pK_ HK.out) hk (.inl rfl))<|an_ (hb)<|D (hi);clear Ka Ja HK HB HI0;obtain ⟨Ka,Ja,HK,HB,HI0⟩:=n_;(try clear hb);(try clear hk);(try clear hi)))
 go_loopg [4] k (fun kq v4 w'=>∃ (x4_1:Int) (Uc:Int) (Xc:Int) (Ua:List (S32)) (u192000:Value),v4=I L x4_1∧Aside0 (spec_l01Cur_heap.l0 kq x4_1 s0_0 Uc Xc Ua=some (r1,r2,r3))∧Aside0 (kq≤k)∧Aside0 (Kd.R k32 32 w' w.heap.size (fun _=>True) u192000 Ua)∧Aside0 (w'.heap[Kb]?=some (.cells #[(Y none 0 0)] 26 (0,0)))∧Aside0 (w'.heap[Xa]?=some (.cells #[u192000] 26 (0,0)))∧Aside0 (IsS47 w0 w' g s0_0 Uc Xc)∧Aside0 (KeepBut w w' g none)∧Aside0 (Below w0.heap.size w0 w'))
 case atStart=>exact ⟨(Jg),(Kg),(Mg),(([]:List (S32))),(Y none 0 0),Z23,H',⟨Nat.le_refl _⟩,⟨by first|exact Kd.R_nil _ _ _ _ _|exact Kd.N_nil _ _ _ _ _|exact Kd.V_nil _ _ _ _ _|exact Kd.Q_nil _ _ _ _ _|exact Kd.S_nil _ _ _ _ _⟩,⟨pk_ Ka.out⟩,⟨pk_ Ja.out⟩,⟨pS47_ HI0.out⟩,⟨pK_ HK.out⟩,⟨pT47_ HB.out⟩⟩
 case round =>
  clear H'
  (try clear c2);(try clear p2);(try clear c3);(try clear c5);(try clear c6);(try clear Jh)
  obtain ⟨x4_1, Uc, Xc, Ua, u192000, rfl, HA, HK1, Ma, Ka, Ja, HI0, HK, HB⟩ := hrel
  cases gk with
  | zero => exact absurd HA.out (by simp [spec_l01Cur_heap.l0])
  | succ k1 =>
   have H := HA.out; clear HA; simp only [spec_l01Cur_heap.l0] at H
   by_cases c9 : x4_1 > 0
   ·rw [if_pos c9] at H
    have c9b0:decide (0 < x4_1)=true:=decide_eq_true c9;clear c9;obtain ⟨⟨Jd,Md,Kc,Mc⟩,A100,H⟩:=bs_.mp H;(try dsimp only at H);have A10:=D A100;clear A100;obtain ⟨⟨Xb,Jc⟩,A110,H⟩:=bs_.mp H;(try dsimp only at H);have A11:=D A110;clear A110;have HU12:=D H;clear H;obtain ⟨Mb,Ob,eo13⟩:=Kd.R_slice Ma.out;subst eo13
    try go_wp2
    have n_ := an_ (Kd.R_drew Ma.out) <| an_ (blk_drew Ka.out) <| an_ (blk_drew Ja.out) <| an_ (IsS47.drew HI0.out) <| an_ (keep_drew HK.out) <| D (below_drew1 HB.out)
    clear Ma Ka Ja HI0 HK HB;obtain ⟨Ma,Ka,Ja,HI0,HK,HB⟩:=n_;refine start_ (n:=10) (S:=fun w'=>w'.cell? ⟨Xa,0,none⟩=some (Y Mb Ua.length Ob)) (ds:=[]) (bz 10 0) (by kernel_rfl) rfl (by kernel_rfl) (bc_ Ja.out 0) (fun hHeld=>?_);refine with_tabW spec_l01Cur_heap.tab5 spec_l01Cur_heap.bits5 (fun HT_ HW_=>?_);generalize wr.drew=w14 at Ma Ka Ja HI0 HK HB hHeld ⊢;refine pb_ 1 ?_;refine tb_ 0 rfl rfl hHeld Z25 ?_;refine join_ (σ:=Value × Nat) 2 (bz 10 255) (fun s_=>[(17,.agg #[I L Jd,I L Md]),(18,.tuple #[.agg #[s_.1],I L Jc]),(5,.pointer (some ⟨s_.2,0,none⟩)),(14,.tuple #[.agg #[s_.1],I L Jc]),(19,.agg #[s_.1]),(20,I L Jc)]) (fun s_ w'=>(w'.cell? ⟨Xa,0,none⟩=some (Y Mb Ua.length Ob))∧(Kd.R k32 32 w' w.heap.size (fun k_=>some k_≠(Y Mb Ua.length Ob:Value).ownBlock) s_.1 Xb)∧(Kd.R k32 32 w' w.heap.size (fun k_=>some k_≠(s_.1:Value).ownBlock) (Y Mb Ua.length Ob) Ua)∧(w'.heap[Kb]?=some (.cells #[Y none 0 0] 26 (0,0)))∧(w'.heap[Xa]?=some (.cells #[Y Mb Ua.length Ob] 26 (0,0)))∧(w'.heap[s_.2]?=some (.cells #[Y none 0 0] 26 (0,0)))∧(w.heap.size≤s_.2)∧(w0.heap.size≤s_.2)∧(g≠s_.2)∧(s_.2≠g)∧(Kb≠s_.2)∧(s_.2≠Kb)∧(Xa≠s_.2)∧(s_.2≠Xa)∧(IsS47 w0 w' g s0_0 Kc Mc)∧(KeepBut w w' g none)∧(Below w0.heap.size w0 w')) ?_ ?_;rotate_left
    ·intro hCont
     refine two_ (i := 2) (j := 7) (Ni := some 17) (Nj := some 5) (bz 10 7) (bz 10 131) rfl rfl rfl rfl (two_of HT_.out (by kernel_rfl)) (by decide) (by decide) (fun K hK => ?_) (fun K hK => ?_)
     ·skip
      refine goes_ Try.func25 (by kernel_rfl) rfl #[.pointer (some ⟨g,0,none⟩)] (by rfl) rfl rfl Z9 ?_;with_reducible refine (spec_l01Cur_item.calls g s0_0 Uc Xc Jd Md Kc Mc w0 _ ?side1 ?side2 A10.out).mono ?_
      (case side1 => exact pS47_ HI0.out); (case side2 => exact pT47_ HB.out); rintro e w15 ⟨rfl, hi, hb, hk⟩; refine ⟨_, rfl, ?_⟩
      have n_:=an_ (Kd.R_mono (Kd.R_keep (IsS47.apart (show IsS47 w0 _ g s0_0 Uc Xc from pS47_ HI0.out) (pR_ Ma.out) (by decide)) hk (fun _ h=>h.2)) (fun _ h=>h.1))<|an_ (KeepBut.blk hk (pk_ Ka.out) Of.out (by simp))<|an_ (KeepBut.blk hk (pk_ Ja.out) Ue.out (by simp))<|an_ (KeepBut.trans (pK_ HK.out) hk (.inl rfl))<|an_ (hb)<|D (hi)
      clear Ma Ka Ja HK HB HI0;obtain ⟨Ma,Ka,Ja,HK,HB,HI0⟩:=n_;refine hK.out _ _ (bc_ Ja.out 0) (fun hHeld=>?_);clear hK K;refine nx_ (N:=some 17) ?_;refine two_ (i:=3) (j:=7) (Ni:=some 18) (Nj:=some 5) (bz 10 15) (bz 10 135) rfl rfl rfl rfl (two_of HT_.out (by kernel_rfl)) (by decide) (by decide) (fun K hK=>?_) (fun K hK=>?_)
      ·skip
       refine goes_ Try.func34 (by kernel_rfl) rfl #[.agg #[Y Mb Ua.length Ob],.agg #[I L Jd,I L Md]] (by rfl) rfl rfl Z9 ?_;with_reducible refine (spec_HeapPush.calls k1 _ _ Ua Jd Md Xb Jc _ ?side1 ?side2 A11.out).mono ?_
       (case side1 => exact pC_ ((Kd.R_reads' Ma.out).2.2)); (case side2 => exact (Kd.R_reads' Ma.out).2.1); rintro e w16 ⟨Xe, rfl, ho0, hb⟩; refine ⟨_, rfl, ?_⟩
       have n_:=an_ (Kd.R_elder' (pR_ Ma.out) (Kd.R_base ho0) hb)<|an_ (Kd.R_lower (nw_ ho0 (pR_ Ma.out)) (keep_size (w:=w) (g:=g) (row:=none) (pK_ HK.out)))<|an_ (blk_below (pk_ Ka.out) hb)<|an_ (blk_below (pk_ Ja.out) hb)<|an_ (IsS47.below (pU47_ HI0.out) hb)<|an_ (KeepBut.trans (pK_ HK.out) (KeepBut.of_below hb g none) (.inl rfl))<|D (below_step (pT47_ HB.out) hb)
       clear Ma Ka Ja HI0 HK HB;obtain ⟨Ma,Ub,Ka,Ja,HI0,HK,HB⟩:=n_;refine hK.out _ _ (bc_ Ja.out 0) (fun hHeld=>?_);clear hK K;refine nx_ (N:=some 18) ?_;refine pb_ 4 ?_;refine pb_ 5 ?_;refine pb_ 6 ?_;refine oa_ 7 5 10 255 HT_ (fun K hK=>?_);refine box_step ?hg (N:=5) ?hd (cs:=#[Y none 0 0]) (t:=26) ?hr ?_;(case hd=>rfl);(case hg=>rfl);(case hr=>first|(go_simp;done)|(go_simp;rfl));intro Oa hg w17 hbox hb
       have n_:=an_ (Kd.R_below (pR_ Ma.out) hb)<|an_ (Kd.R_below (pR_ Ub.out) hb)<|an_ (blk_below (pk_ Ka.out) hb)<|an_ (blk_below (pk_ Ja.out) hb)<|an_ (IsS47.below (pU47_ HI0.out) hb)<|an_ (KeepBut.trans (pK_ HK.out) (KeepBut.of_below hb g none) (.inl rfl))<|an_ (below_step (pT47_ HB.out) hb)<|an_ (hbox)<|an_ ((by rw [hg];exact (keep_size (w:=w) (g:=g) (row:=none) (pK_ HK.out)):w.heap.size≤Oa))<|an_ ((Nat.le_trans HW0.out (by rw [hg];exact (keep_size (w:=w) (g:=g) (row:=none) (pK_ HK.out)):w.heap.size≤Oa):w0.heap.size≤Oa))<|an_ (nl_ hg (pk_ Ka.out):Kb≠Oa)<|an_ (ng_ hg (pk_ Ka.out):Oa≠Kb)<|an_ (nl_ hg (pk_ Ja.out):Xa≠Oa)<|an_ (ng_ hg (pk_ Ja.out):Oa≠Xa)<|an_ ((by rw [hg];exact Nat.ne_of_lt (IsS47.lt (show IsS47 w0 _ g s0_0 Kc Mc from pS47_ HI0.out)):g≠Oa))<|D ((by rw [hg];exact Nat.ne_of_gt (IsS47.lt (show IsS47 w0 _ g s0_0 Kc Mc from pS47_ HI0.out)):Oa≠g))
       clear Ma Ub Ka Ja HI0 HK HB;obtain ⟨Ma,Ub,Ka,Ja,HI0,HK,HB,Jb,Jf,Kf,Od,Ud,Oc,Xd,Ke,Je⟩:=n_;clear hb hbox hg;refine hK.out _ _ (bc_ Ja.out 0) (fun hHeld=>?_);clear hK K;refine nx_ (N:=some 5) ?_;exact norm_ Z15 (hCont (Xe,Oa) _ ⟨hHeld,(pR_ (Kd.R_mono Ub.out (fun _ hk=>hk.2))),(pR_ (Kd.R_mono Ma.out (fun _ hk=>hk.2))),(pk_ Ka.out),(pk_ Ja.out),(pk_ Jb.out),Jf.out,Kf.out,Ke.out,Je.out,Od.out,Ud.out,Oc.out,Xd.out,(pS47_ HI0.out),(pK_ HK.out),(pT47_ HB.out)⟩)
      ·skip
       refine box_step ?hg (N := 5) ?hd (cs := #[Y none 0 0]) (t := 26) ?hr ?_; (case hd => rfl); (case hg => rfl); (case hr => first | (go_simp; done) | (go_simp; rfl)); intro Oa hg w16 hbox hb
       have n_:=an_ (Kd.R_below (pR_ Ma.out) hb)<|an_ (blk_below (pk_ Ka.out) hb)<|an_ (blk_below (pk_ Ja.out) hb)<|an_ (IsS47.below (pU47_ HI0.out) hb)<|an_ (KeepBut.trans (pK_ HK.out) (KeepBut.of_below hb g none) (.inl rfl))<|an_ (below_step (pT47_ HB.out) hb)<|an_ (hbox)<|an_ ((by rw [hg];exact (keep_size (w:=w) (g:=g) (row:=none) (pK_ HK.out)):w.heap.size≤Oa))<|an_ ((Nat.le_trans HW0.out (by rw [hg];exact (keep_size (w:=w) (g:=g) (row:=none) (pK_ HK.out)):w.heap.size≤Oa):w0.heap.size≤Oa))<|an_ (nl_ hg (pk_ Ka.out):Kb≠Oa)<|an_ (ng_ hg (pk_ Ka.out):Oa≠Kb)<|an_ (nl_ hg (pk_ Ja.out):Xa≠Oa)<|an_ (ng_ hg (pk_ Ja.out):Oa≠Xa)<|an_ ((by rw [hg];exact Nat.ne_of_lt (IsS47.lt (show IsS47 w0 _ g s0_0 Kc Mc from pS47_ HI0.out)):g≠Oa))<|D ((by rw [hg];exact Nat.ne_of_gt (IsS47.lt (show IsS47 w0 _ g s0_0 Kc Mc from pS47_ HI0.out)):Oa≠g))
       clear Ma Ka Ja HI0 HK HB;obtain ⟨Ma,Ka,Ja,HI0,HK,HB,Jb,Jf,Kf,Od,Ud,Oc,Xd,Ke,Je⟩:=n_;clear hb hbox hg;refine hK.out _ _ (bc_ Ja.out 0) (fun hHeld=>?_);clear hK K;refine nx_ (N:=some 5) ?_;refine oa_ 3 18 10 143 HT_ (fun K hK=>?_);refine goes_ Try.func34 (by kernel_rfl) rfl #[.agg #[Y Mb Ua.length Ob],.agg #[I L Jd,I L Md]] (by rfl) rfl rfl Z9 ?_;with_reducible refine (spec_HeapPush.calls k1 _ _ Ua Jd Md Xb Jc _ ?side1 ?side2 A11.out).mono ?_
       (case side1 => exact pC_ ((Kd.R_reads' Ma.out).2.2)); (case side2 => exact (Kd.R_reads' Ma.out).2.1); rintro e w17 ⟨Xe, rfl, ho0, hb⟩; refine ⟨_, rfl, ?_⟩
       have n_:=an_ (Kd.R_elder' (pR_ Ma.out) (Kd.R_base ho0) hb)<|an_ (Kd.R_lower (nw_ ho0 (pR_ Ma.out)) (keep_size (w:=w) (g:=g) (row:=none) (pK_ HK.out)))<|an_ (blk_below (pk_ Ka.out) hb)<|an_ (blk_below (pk_ Ja.out) hb)<|an_ (IsS47.below (pU47_ HI0.out) hb)<|an_ (blk_below (pk_ Jb.out) hb)<|an_ (KeepBut.trans (pK_ HK.out) (KeepBut.of_below hb g none) (.inl rfl))<|D (below_step (pT47_ HB.out) hb)
       clear Ma Ka Ja HI0 Jb HK HB;obtain ⟨Ma,Ub,Ka,Ja,HI0,Jb,HK,HB⟩:=n_;refine hK.out _ _ (bc_ Ja.out 0) (fun hHeld=>?_);clear hK K;refine nx_ (N:=some 18) ?_;refine pb_ 4 ?_;refine pb_ 5 ?_;refine pb_ 6 ?_;exact norm_ Z15 (hCont (Xe,Oa) _ ⟨hHeld,(pR_ (Kd.R_mono Ub.out (fun _ hk=>hk.2))),(pR_ (Kd.R_mono Ma.out (fun _ hk=>hk.2))),(pk_ Ka.out),(pk_ Ja.out),(pk_ Jb.out),Jf.out,Kf.out,Ke.out,Je.out,Od.out,Ud.out,Oc.out,Xd.out,(pS47_ HI0.out),(pK_ HK.out),(pT47_ HB.out)⟩)
     ·skip
      refine box_step ?hg (N := 5) ?hd (cs := #[Y none 0 0]) (t := 26) ?hr ?_; (case hd => rfl); (case hg => rfl); (case hr => first | (go_simp; done) | (go_simp; rfl)); intro Oa hg w15 hbox hb
      have n_:=an_ (Kd.R_below (pR_ Ma.out) hb)<|an_ (blk_below (pk_ Ka.out) hb)<|an_ (blk_below (pk_ Ja.out) hb)<|an_ (IsS47.below (pU47_ HI0.out) hb)<|an_ (KeepBut.trans (pK_ HK.out) (KeepBut.of_below hb g none) (.inl rfl))<|an_ (below_step (pT47_ HB.out) hb)<|an_ (hbox)<|an_ ((by rw [hg];exact (keep_size (w:=w) (g:=g) (row:=none) (pK_ HK.out)):w.heap.size≤Oa))<|an_ ((Nat.le_trans HW0.out (by rw [hg];exact (keep_size (w:=w) (g:=g) (row:=none) (pK_ HK.out)):w.heap.size≤Oa):w0.heap.size≤Oa))<|an_ (nl_ hg (pk_ Ka.out):Kb≠Oa)<|an_ (ng_ hg (pk_ Ka.out):Oa≠Kb)<|an_ (nl_ hg (pk_ Ja.out):Xa≠Oa)<|an_ (ng_ hg (pk_ Ja.out):Oa≠Xa)<|an_ ((by rw [hg];exact Nat.ne_of_lt (IsS47.lt (show IsS47 w0 _ g s0_0 Uc Xc from pS47_ HI0.out)):g≠Oa))<|D ((by rw [hg];exact Nat.ne_of_gt (IsS47.lt (show IsS47 w0 _ g s0_0 Uc Xc from pS47_ HI0.out)):Oa≠g))
      clear Ma Ka Ja HI0 HK HB;obtain ⟨Ma,Ka,Ja,HI0,HK,HB,Jb,Jf,Kf,Od,Ud,Oc,Xd,Ke,Je⟩:=n_;clear hb hbox hg;refine hK.out _ _ (bc_ Ja.out 0) (fun hHeld=>?_);clear hK K;refine nx_ (N:=some 5) ?_;refine oa_ 2 17 10 135 HT_ (fun K hK=>?_);refine goes_ Try.func25 (by kernel_rfl) rfl #[.pointer (some ⟨g,0,none⟩)] (by rfl) rfl rfl Z9 ?_;with_reducible refine (spec_l01Cur_item.calls g s0_0 Uc Xc Jd Md Kc Mc w0 _ ?side1 ?side2 A10.out).mono ?_
      (case side1 => exact pS47_ HI0.out); (case side2 => exact pT47_ HB.out); rintro e w16 ⟨rfl, hi, hb, hk⟩; refine ⟨_, rfl, ?_⟩
      have n_:=an_ (Kd.R_mono (Kd.R_keep (IsS47.apart (show IsS47 w0 _ g s0_0 Uc Xc from pS47_ HI0.out) (pR_ Ma.out) (by decide)) hk (fun _ h=>h.2)) (fun _ h=>h.1))<|an_ (KeepBut.blk hk (pk_ Ka.out) Of.out (by simp))<|an_ (KeepBut.blk hk (pk_ Ja.out) Ue.out (by simp))<|an_ (KeepBut.blk hk (pk_ Jb.out) Je.out (by simp))<|an_ (KeepBut.trans (pK_ HK.out) hk (.inl rfl))<|an_ (hb)<|D (hi)
      clear Ma Ka Ja Jb HK HB HI0;obtain ⟨Ma,Ka,Ja,Jb,HK,HB,HI0⟩:=n_;refine hK.out _ _ (bc_ Ja.out 0) (fun hHeld=>?_);clear hK K;refine nx_ (N:=some 17) ?_;refine oa_ 3 18 10 143 HT_ (fun K hK=>?_);refine goes_ Try.func34 (by kernel_rfl) rfl #[.agg #[Y Mb Ua.length Ob],.agg #[I L Jd,I L Md]] (by rfl) rfl rfl Z9 ?_;with_reducible refine (spec_HeapPush.calls k1 _ _ Ua Jd Md Xb Jc _ ?side1 ?side2 A11.out).mono ?_
      (case side1 => exact pC_ ((Kd.R_reads' Ma.out).2.2)); (case side2 => exact (Kd.R_reads' Ma.out).2.1); rintro e w17 ⟨Xe, rfl, ho0, hb⟩; refine ⟨_, rfl, ?_⟩
      have n_:=an_ (Kd.R_elder' (pR_ Ma.out) (Kd.R_base ho0) hb)<|an_ (Kd.R_lower (nw_ ho0 (pR_ Ma.out)) (keep_size (w:=w) (g:=g) (row:=none) (pK_ HK.out)))<|an_ (blk_below (pk_ Ka.out) hb)<|an_ (blk_below (pk_ Ja.out) hb)<|an_ (IsS47.below (pU47_ HI0.out) hb)<|an_ (blk_below (pk_ Jb.out) hb)<|an_ (KeepBut.trans (pK_ HK.out) (KeepBut.of_below hb g none) (.inl rfl))<|D (below_step (pT47_ HB.out) hb)
      clear Ma Ka Ja HI0 Jb HK HB;obtain ⟨Ma,Ub,Ka,Ja,HI0,Jb,HK,HB⟩:=n_;refine hK.out _ _ (bc_ Ja.out 0) (fun hHeld=>?_);clear hK K;refine nx_ (N:=some 18) ?_;refine pb_ 4 ?_;refine pb_ 5 ?_;refine pb_ 6 ?_;exact norm_ Z15 (hCont (Xe,Oa) _ ⟨hHeld,(pR_ (Kd.R_mono Ub.out (fun _ hk=>hk.2))),(pR_ (Kd.R_mono Ma.out (fun _ hk=>hk.2))),(pk_ Ka.out),(pk_ Ja.out),(pk_ Jb.out),Jf.out,Kf.out,Ke.out,Je.out,Od.out,Ud.out,Oc.out,Xd.out,(pS47_ HI0.out),(pK_ HK.out),(pT47_ HB.out)⟩)
    rintro ⟨Xe, Oa⟩ w18 ⟨hS_, h0_, h1_, h2_, h3_, h4_, h5_, h6_, h7_, h8_, h9_, h10_, h11_, h12_, h13_, h14_, h15_⟩
    have n_:=an_ (h0_)<|an_ (h1_)<|an_ (h2_)<|an_ (h3_)<|an_ (h4_)<|an_ (h5_)<|an_ (h6_)<|an_ (h7_)<|an_ (h8_)<|an_ (h9_)<|an_ (h10_)<|an_ (h11_)<|an_ (h12_)<|an_ (h13_)<|an_ (h14_)<|D (h15_)
    clear Ma Ka Ja HI0 HK HB h0_ h1_ h2_ h3_ h4_ h5_ h6_ h7_ h8_ h9_ h10_ h11_ h12_ h13_ h14_ h15_;obtain ⟨Ub,Ma,Ka,Ja,Jb,Jf,Kf,Ke,Je,Od,Ud,Oc,Xd,HI0,HK,HB⟩:=n_;have hHeld:w18.cell? ⟨Xa,0,none⟩=some (Y Mb Ua.length Ob):=hS_;obtain ⟨Me,Oe,eo19⟩:=Kd.R_slice Ub.out;(first|subst eo19|obtain ⟨rfl,rfl⟩:=sl_inj eo19);refine norm_ (a':=?_) ?_ ?_;rotate_left
    ·simp only [putAll, Act.put, List.setIfInBounds_toArray, List.set_cons_zero, List.set_cons_succ]
     rfl
    refine one_ (i:=8) (N:=none) (bz 10 511) rfl rfl (one_of HT_.out (by kernel_rfl)) (by decide) (fun K hK=>?_);have hs20:=cells1 Jb.out;have hns20_0:=Od.out;have hns20_1:=Oc.out;have hms20_0:=Ud.out;have hms20_1:=Xd.out;refine skip_ (w1:=?_) (by rfl) rfl ?_ ?_;rotate_left
    ·go_simp
     rfl
    refine hK.out _ _ (cF_ Oc.out (hHeld)) (fun hHeld=>?_);clear hK K;refine pb_ 9 ?_;refine done_ (done_of HT_.out (by kernel_rfl)) ?_
    go_upto_if 22 with (fail)
    refine relet_ (F:=fun w21=>Aside0 (Kd.R k32 32 w21 w.heap.size (fun k_=>some k_≠(Y Me Xb.length Oe:Value).ownBlock) (Y Mb Ua.length Ob) Ua)∧Aside0 (Kd.R k32 32 w21 w.heap.size (fun k_=>some k_≠(Y Mb Ua.length Ob:Value).ownBlock) (Y Me Xb.length Oe) Xb)∧Aside0 (w21.heap[Kb]?=some (.cells #[Y none 0 0] 26 (0,0)))∧Aside0 (w21.heap[Xa]?=some (.cells #[Y Mb Ua.length Ob] 26 (0,0)))∧Aside0 (w21.heap[Oa]?=some (.cells #[Y Me Xb.length Oe] 26 (0,0)))∧Aside0 (IsS47 w0 w21 g s0_0 Kc Mc)∧Aside0 (KeepBut w w21 g none)∧Aside0 (Below w0.heap.size w0 w21)) ⟨⟨rM_ (Kd.R_types Ma.out Jb.out (by decide)) (fun _ hk=>hk.1)⟩,⟨rM_ (Kd.R_types Ub.out Jb.out (by decide)) (fun _ hk=>hk.1)⟩,⟨pP_ Ka.out⟩,⟨pP_ Ja.out⟩,⟨pP_ Jb.out⟩,⟨pS47_ HI0.out⟩,⟨pK_ HK.out⟩,⟨pT47_ HB.out⟩⟩ ?_;(try clear Ma);(try clear Ub);(try clear Ka);(try clear Ja);(try clear Jb);(try clear HI0);(try clear HK);(try clear HB);rintro w21 ⟨Ma,Ub,Ka,Ja,Jb,HI0,HK,HB⟩;have H:=HU12.out;clear HU12
    by_cases c22 : Jc = 0
    ·rw [if_pos c22] at H
     have c22b0:(Jc == 0)=true:=beq_iff_eq.mpr c22;have c22b1:(Jc != 0)=false:=bne_eq_false_iff_eq.mpr c22;clear c22;refine rw_ c22b0 ?_;have H':=D H;clear H;(try have:=Ud.out);(try have:=Od.out);(try have:=Xd.out);(try have:=Oc.out);(try have:=Je.out);(try have:=Ke.out);have Ji:=cells1 Jb.out;(try have:=Uf.out);(try have:=Mf.out);(try have:=Ue.out);(try have:=Xf.out);have Mi:=cells1 Ja.out
     go_wp2
     go_roundg k1
     case measure => have := HK1.out; omega
     case rel=>exact ⟨(wrap64 (x4_1 - 1)),(Kc),(Mc),(Xb),(Y Me Xb.length Oe),Z23,H',⟨by have:=HK1.out;omega⟩,⟨rM_ (Kd.R_types Ub.out Ja.out (by decide)) (fun _ hk=>trivial)⟩,⟨pP_ Ka.out⟩,⟨pP_ Ja.out⟩,⟨pS47_ HI0.out⟩,⟨pK_ HK.out⟩,⟨pT47_ HB.out⟩⟩
    ·rw [if_neg c22] at H
     have c22b0:(Jc == 0)=false:=beq_eq_false_iff_ne.mpr c22;have c22b1:(Jc != 0)=true:=bne_iff_ne.mpr c22;refine rw_ c22b0 ?_;have H':=D H;clear H
     go_wp2
     go_roundg k1
     case measure => have := HK1.out; omega
     case rel=>exact ⟨(wrap64 (x4_1 - 1)),(Kc),(Mc),(Ua),(Y Mb Ua.length Ob),Z23,H',⟨by have:=HK1.out;omega⟩,⟨pR_ (Kd.R_mono Ma.out (fun _ hk=>trivial))⟩,⟨pk_ Ka.out⟩,⟨pk_ Ja.out⟩,⟨pS47_ HI0.out⟩,⟨pK_ HK.out⟩,⟨pT47_ HB.out⟩⟩
   ·rw [if_neg c9] at H
    have c9b0:decide (0 < x4_1)=false:=decide_eq_false c9;clear c9;simp only [Option.some.injEq,Prod.mk.injEq] at H;obtain ⟨rfl,rfl,rfl⟩:=H;(try have:=Uf.out);(try have:=Mf.out);(try have:=Ue.out);(try have:=Xf.out);have Ui:=cells1 Ja.out;obtain ⟨Og,Ug,eo33⟩:=Kd.R_slice Ma.out;subst eo33;(try have:=Of.out);(try have:=Xg.out);have Jj:=cells1 Ka.out
    go_wp2
    refine bodyPost_ret (results_cell_row rfl _ _ Kb 26 #[Y Og Ua.length Ug] (0,0) _ rfl Z14 Try.underlying26 rfl (by kernel_rfl)) rfl ?_;exact ⟨_,er_,by (with_reducible repeat (first|apply Kd.R_alloc|apply Kd.R_drewN|apply Kd.R_drew));exact Kd.R_mono (fr_ (Kd.R_types Ma.out Ka.out (by decide)) 0 (Y Og Ua.length Ug)) (fun _ hk=>trivial),pS47_ HI0.out,pT47_ HB.out,pK_ HK.out⟩

/-! ### spec_l01Cur_raw: function 26 -/
def spec_l01Cur_raw.f (s0_0 : List Int) (s0_1 s0_2 : Int) : Option (Int × Int × Int) := (spec_l01Cur_pick.f s0_0 s0_1 s0_2 8).bind fun bt204 => (if bt204.1 = 0 then ((spec_l01Cur_pick.f s0_0 bt204.2.1 bt204.2.2 256).bind fun bt207 => (some (wrap64 (bt207.1 - 128), bt207.2.1, bt207.2.2))) else (if bt204.1 = 1 then ((some (([9223372036854775807, (-9223372036854775808), 4611686018427387904, 65535, 65536, (-1000), 4294967295, 4294967296] : List Int) : List Int)).bind fun y210 => ((spec_l01Cur_pick.f s0_0 bt204.2.1 bt204.2.2 8).bind fun bt213 => (if 0 ≤ bt213.1 then (if bt213.1 < (y210.length : Int) then (some (rd y210 bt213.1, bt213.2.1, bt213.2.2)) else (none)) else (none)))) else ((spec_l01Cur_pick.f s0_0 bt204.2.1 bt204.2.2 14).bind fun bt217 => (some (wrap64 (bt217.1 - 3), bt217.2.1, bt217.2.2)))))
set_option maxHeartbeats 8000000 in
set_option maxRecDepth 100000 in
theorem spec_l01Cur_raw.calls (g : Nat) (s0_0 : List Int) (s0_1 s0_2 r1 r2 r3 : Int) (w0 w : World) (hI : IsS47 w0 w g s0_0 s0_1 s0_2) (hB : Below w0.heap.size w0 w) (h : spec_l01Cur_raw.f s0_0 s0_1 s0_2 = some (r1, r2, r3)) :
  Calls Try.prog 26 #[.pointer (some ⟨g, 0, none⟩)] w fun e w' => e = .returned (I L r1) ∧ IsS47 w0 w' g s0_0 r2 r3 ∧ Below w0.heap.size w0 w' ∧ KeepBut w w' g none := by
 have HI0 := D hI
 have HK := D (KeepBut.refl w g none)
 have HL := D hB.size
 clear hI
 have HW0 := D hB.size
 have HB := D hB
 clear hB
 have H:((spec_l01Cur_pick.f s0_0 s0_1 s0_2 8).bind fun bt204=>(if bt204.1=0 then ((spec_l01Cur_pick.f s0_0 bt204.2.1 bt204.2.2 256).bind fun bt207=>(some (wrap64 (bt207.1 - 128),bt207.2.1,bt207.2.2))) else (if bt204.1=1 then ((some (([9223372036854775807,(-9223372036854775808),4611686018427387904,65535,65536,(-1000),4294967295,4294967296]:List Int):List Int)).bind fun y210=>((spec_l01Cur_pick.f s0_0 bt204.2.1 bt204.2.2 8).bind fun bt213=>(if 0≤bt213.1 then (if bt213.1 < (y210.length:Int) then (some (rd y210 bt213.1,bt213.2.1,bt213.2.2)) else (none)) else (none)))) else ((spec_l01Cur_pick.f s0_0 bt204.2.1 bt204.2.2 14).bind fun bt217=>(some (wrap64 (bt217.1 - 3),bt217.2.1,bt217.2.2))))))=some (r1,r2,r3):=h
 clear h
 obtain ⟨⟨t204, t205, t206⟩, A20, H⟩ := bs_.mp H
 (try dsimp only at H)
 have A2 := D A20
 clear A20
 have HU3 := D H
 clear H
 go_enter Try.func26, Try.ntmps26
 go_upto_if 5 with (first|((with_reducible refine gate_callee (f:=24) rfl ?_);refine goesL_ (some 4) rfl rfl Try.func24 (by kernel_rfl) rfl #[.pointer (some ⟨g,0,none⟩),I L 8] rfl Z9 ?_;(with_reducible refine (spec_l01Cur_pick.calls g s0_0 s0_1 s0_2 8 t204 t205 t206 w0 _ ?side1 ?side2 A2.out).mono ?_);(case side1=>exact pS47_ HI0.out);(case side2=>exact pT47_ HB.out);rintro e w4 ⟨rfl,hi,hb,hk⟩;refine ⟨_,rfl,?_⟩;have n_:=an_ (KeepBut.trans (pK_ HK.out) hk (.inl rfl))<|an_ (hb)<|D (hi);clear HK HB HI0;obtain ⟨HK,HB,HI0⟩:=n_;(try clear hb);(try clear hk);(try clear hi)))
 have H := HU3.out
 clear HU3
 by_cases c5 : t204 = 0
 ·rw [if_pos c5] at H
  have c5b0:(t204 == 0)=true:=beq_iff_eq.mpr c5;have c5b1:(t204 != 0)=false:=bne_eq_false_iff_eq.mpr c5;clear c5;refine rw_ c5b0 ?_;obtain ⟨⟨t207,t208,t209⟩,A60,H⟩:=bs_.mp H;(try dsimp only at H);have A6:=D A60;clear A60;simp only [Option.some.injEq,Prod.mk.injEq] at H;obtain ⟨rfl,rfl,rfl⟩:=H
  go_wp2_with (first|((with_reducible refine gate_callee (f:=24) rfl ?_);refine goesL_ (some 8) rfl rfl Try.func24 (by kernel_rfl) rfl #[.pointer (some ⟨g,0,none⟩),I L 256] rfl Z9 ?_;(with_reducible refine (spec_l01Cur_pick.calls g s0_0 t205 t206 256 t207 t208 t209 w0 _ ?side1 ?side2 A6.out).mono ?_);(case side1=>exact pS47_ HI0.out);(case side2=>exact pT47_ HB.out);rintro e w7 ⟨rfl,hi,hb,hk⟩;refine ⟨_,rfl,?_⟩;have n_:=an_ (KeepBut.trans (pK_ HK.out) hk (.inl rfl))<|an_ (hb)<|D (hi);clear HK HB HI0;obtain ⟨HK,HB,HI0⟩:=n_;(try clear hb);(try clear hk);(try clear hi)))
  go_ret; exact ⟨er_, pS47_ HI0.out, pT47_ HB.out, pK_ HK.out⟩
 ·rw [if_neg c5] at H
  have c5b0:(t204 == 0)=false:=beq_eq_false_iff_ne.mpr c5;have c5b1:(t204 != 0)=true:=bne_iff_ne.mpr c5;refine rw_ c5b0 ?_
  by_cases c8 : t204 = 1
  ·rw [if_pos c8] at H
   have c8b0:(t204 == 1)=true:=beq_iff_eq.mpr c8;have c8b1:(t204 != 1)=false:=bne_eq_false_iff_eq.mpr c8;clear c8;obtain ⟨y210,hy210⟩:∃ y_:List Int,y_=(([9223372036854775807,(-9223372036854775808),4611686018427387904,65535,65536,(-1000),4294967295,4294967296]:List Int)):=⟨_,rfl⟩
   replace H:((spec_l01Cur_pick.f s0_0 t205 t206 8).bind fun bt213=>(if 0≤bt213.1 then (if bt213.1 < (y210.length:Int) then (some (rd y210 bt213.1,bt213.2.1,bt213.2.2)) else (none)) else (none)))=some (r1,r2,r3):=by first|(rw [hy210];with_reducible exact H)|(have H2_:=(Option.bind_some _ _).symm.trans H;rw [hy210];with_reducible exact H2_)|(have H2_:=(Option.bind_some _ _).symm.trans H;with_reducible exact H2_)|with_reducible exact H|(rw [hy210];exact H)|exact H
   have Ny210 := D hy210; clear hy210; obtain ⟨⟨t213, t214, t215⟩, A90, H⟩ := bs_.mp H; (try dsimp only at H); have A9 := D A90; clear A90
   by_cases c10 : 0 ≤ t213
   ·rw [if_pos c10] at H
    have c10b0 : decide (0 ≤ t213) = true := decide_eq_true c10; clear c10
    by_cases c11 : t213 < (y210.length : Int)
    ·rw [if_pos c11] at H
     have c11b0 : decide (t213 < (y210.length : Int)) = true := decide_eq_true c11; clear c11; simp only [Option.some.injEq, Prod.mk.injEq] at H; obtain ⟨rfl, rfl, rfl⟩ := H
     go_wp2_with (first|((with_reducible refine gate_dst (N:=12) rfl ?_);refine Kd.R_lit (Kd.int .i64) _ 3 ?hg (N:=12) ?hd (xs:=([9223372036854775807,(-9223372036854775808),4611686018427387904,65535,65536,(-1000),4294967295,4294967296]:List Int)) (inner:=[I L 9223372036854775807,I L (-9223372036854775808),I L 4611686018427387904,I L 65535,I L 65536,I L (-1000),I L 4294967295,I L 4294967296]) (ok:=fun _=>True) (okp:=fun _=>True) ?hr ?hp (fun _ hk=>hk) trivial (Below.refl _ _) (Nat.le_refl _) (by simp) ?_;(case hd=>rfl);(case hg=>rfl);(case hr=>first|(go_simp;done)|(go_simp;rfl));(case hp=>exact (Reps.one (show Kd.M (Kd.int .i64) _ _ _ 9223372036854775807 [I L 9223372036854775807] from rfl) (Reps.one (show Kd.M (Kd.int .i64) _ _ _ (-9223372036854775808) [I L (-9223372036854775808)] from rfl) (Reps.one (show Kd.M (Kd.int .i64) _ _ _ 4611686018427387904 [I L 4611686018427387904] from rfl) (Reps.one (show Kd.M (Kd.int .i64) _ _ _ 65535 [I L 65535] from rfl) (Reps.one (show Kd.M (Kd.int .i64) _ _ _ 65536 [I L 65536] from rfl) (Reps.one (show Kd.M (Kd.int .i64) _ _ _ (-1000) [I L (-1000)] from rfl) (Reps.one (show Kd.M (Kd.int .i64) _ _ _ 4294967295 [I L 4294967295] from rfl) (Reps.one (show Kd.M (Kd.int .i64) _ _ _ 4294967296 [I L 4294967296] from rfl) (Reps.none _ _))))))))));intro v211 w12 ho13 hb hg_ hnew_;clear hg_ hnew_;(first|rw [← Ny210.out] at ho13|(simp only [Int.reduceToNat] at ho13;rw [← Ny210.out] at ho13));have n_:=an_ (Kd.R_lower ho13 (keep_size (w:=w) (g:=g) (row:=none) (pK_ HK.out)))<|an_ (IsS47.below (pU47_ HI0.out) hb)<|an_ (KeepBut.trans (pK_ HK.out) (KeepBut.of_below hb g none) (.inl rfl))<|D (below_step (pT47_ HB.out) hb);clear HI0 HK HB;obtain ⟨HO212,HI0,HK,HB⟩:=n_;clear hb ho13)|((with_reducible refine gate_callee (f:=24) rfl ?_);refine goesL_ (some 14) rfl rfl Try.func24 (by kernel_rfl) rfl #[.pointer (some ⟨g,0,none⟩),I L 8] rfl Z9 ?_;(with_reducible refine (spec_l01Cur_pick.calls g s0_0 t205 t206 8 t213 t214 t215 w0 _ ?side1 ?side2 A9.out).mono ?_);(case side1=>exact pS47_ HI0.out);(case side2=>exact pT47_ HB.out);rintro e w14 ⟨rfl,hi,hb,hk⟩;refine ⟨_,rfl,?_⟩;have n_:=an_ (Kd.R_mono (Kd.R_keep (IsS47.apart (show IsS47 w0 _ g s0_0 t205 t206 from pS47_ HI0.out) (pR_ HO212.out) (by decide)) hk (fun _ h=>h.2)) (fun _ h=>h.1))<|an_ (KeepBut.trans (pK_ HK.out) hk (.inl rfl))<|an_ (hb)<|D (hi);clear HO212 HK HB HI0;obtain ⟨HO212,HK,HB,HI0⟩:=n_;(try clear hb);(try clear hk);(try clear hi);obtain ⟨Ao15,co15,eo15⟩:=Kd.R_slice HO212.out;subst eo15;have p216:0≤(t213:Int):=od_ Z22;have q216:t213 < (y210.length:Int):=od_ Z22;obtain ⟨ad216,e216,hx216_0⟩:=Kd.at_int (Kd.R_reads' HO212.out).2.2 t213 p216 q216;cases e216;replace p216:=eq_true p216;replace q216:=eq_true q216))
     go_ret; exact ⟨er_, pS47_ HI0.out, pT47_ HB.out, pK_ HK.out⟩
    ·rw [if_neg c11] at H
     exact absurd H (by simp)
   ·rw [if_neg c10] at H
    exact absurd H (by simp)
  ·rw [if_neg c8] at H
   have c8b0:(t204 == 1)=false:=beq_eq_false_iff_ne.mpr c8;have c8b1:(t204 != 1)=true:=bne_iff_ne.mpr c8;obtain ⟨⟨t217,t218,t219⟩,A160,H⟩:=bs_.mp H;(try dsimp only at H);have A16:=D A160;clear A160;simp only [Option.some.injEq,Prod.mk.injEq] at H;obtain ⟨rfl,rfl,rfl⟩:=H
   go_wp2_with (first|((with_reducible refine gate_callee (f:=24) rfl ?_);refine goesL_ (some 18) rfl rfl Try.func24 (by kernel_rfl) rfl #[.pointer (some ⟨g,0,none⟩),I L 14] rfl Z9 ?_;(with_reducible refine (spec_l01Cur_pick.calls g s0_0 t205 t206 14 t217 t218 t219 w0 _ ?side1 ?side2 A16.out).mono ?_);(case side1=>exact pS47_ HI0.out);(case side2=>exact pT47_ HB.out);rintro e w17 ⟨rfl,hi,hb,hk⟩;refine ⟨_,rfl,?_⟩;have n_:=an_ (KeepBut.trans (pK_ HK.out) hk (.inl rfl))<|an_ (hb)<|D (hi);clear HK HB HI0;obtain ⟨HK,HB,HI0⟩:=n_;(try clear hb);(try clear hk);(try clear hi)))
   go_ret; exact ⟨er_, pS47_ HI0.out, pT47_ HB.out, pK_ HK.out⟩

end Go.Proofs.Ytcindcakncngnaa.PFnHeapSorts
