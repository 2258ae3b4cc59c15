-- by a program of this session's, over the kit's words
import Derived.Test.YtpkdkhhknmlpjaaPZFnTakenAdds
import Derived.Test.YtpkdkhhknmlpjaaPFnTakenAddsx0
import Derived.Test.YtpkdkhhknmlpjaaPFnTakenAddsx2
import Derived.Test.YtpkdkhhknmlpjaaPFnTakenAddsx8
import Derived.Test.YtpkdkhhknmlpjaaPFnTakenAddsx15
namespace Go.Proofs.Ytpkdkhhknmlpjaa.PFnTakenAdds
open Go.RowKit Go.Proofs.YtpkdkhhknmlpjaaW.PrintWords Go.Proofs.YtpkdkhhknmlpjaaW.PrintLast Go.Proofs.YtpkdkhhknmlpjaaW.PrintMore Go.Proofs.YtpkdkhhknmlpjaaV Go.Proofs.Ytpkdkhhknmlpjaa.ZFnTakenAdds
open Go.Value renaming int → I, slice → Y
open Go.IntKind renaming i64 → L
open Aside0 renaming mk → D
open Option renaming bind_eq_some_iff → bs_
attribute [local go_sem] max2_int min2_int max_two min_two max_three min_three max_four min_four
set_option linter.unusedVariables false
set_option linter.unusedSimpArgs false
set_option maxHeartbeats 8000000
set_option maxRecDepth 100000
mutual
def spec_DealsOk.l0:Nat→List (S44)→Int→Option (Bool)
 | 0,_,_=>none
 | k+1,b,a=>if a < (b.length:Int) then (if 0≤a then ((spec_ChargeOk.f ((rd_T44 b a).f2.f0) ((rd_T44 b a).f2.f1) ((rd_T44 b a).f2.f2)).bind fun l=>(if l=true then ((spec_Stride.f ((rd_T44 b a).f1)).bind fun m=>(if m=0 then (spec_DealsOk.j1 k b a true ((rd_T44 b a).f0) ((rd_T44 b a).f1) ((rd_T44 b a).f2.f0) ((rd_T44 b a).f2.f1) ((rd_T44 b a).f2.f2) ((rd_T44 b a).f3)) else (if (((rd_T44 b a).f3).length:Int) > 10000 then (spec_DealsOk.j1 k b a true ((rd_T44 b a).f0) ((rd_T44 b a).f1) ((rd_T44 b a).f2.f0) ((rd_T44 b a).f2.f1) ((rd_T44 b a).f2.f2) ((rd_T44 b a).f3)) else ((spec_l19In.f k ((rd_T44 b a).f3) ((rd_T44 b a).f0)).bind fun n=>(spec_DealsOk.j1 k b a (!n) ((rd_T44 b a).f0) ((rd_T44 b a).f1) ((rd_T44 b a).f2.f0) ((rd_T44 b a).f2.f1) ((rd_T44 b a).f2.f2) ((rd_T44 b a).f3)))))) else (spec_DealsOk.j1 k b a true ((rd_T44 b a).f0) ((rd_T44 b a).f1) ((rd_T44 b a).f2.f0) ((rd_T44 b a).f2.f1) ((rd_T44 b a).f2.f2) ((rd_T44 b a).f3)))) else (none)) else (some true)
def spec_DealsOk.j1:Nat→List (S44)→Int→Bool→Int→Int→Int→Int→Int→List Int→Option (Bool)
 | 0,_,_,_,_,_,_,_,_,_=>none
 | k+1,b,a,o,e,g,h,i,j,d=>if o=true then (some false) else (spec_DealsOk.l1 k b a 0 e g h i j d)
def spec_DealsOk.l1:Nat→List (S44)→Int→Int→Int→Int→Int→Int→Int→List Int→Option (Bool)
 | 0,_,_,_,_,_,_,_,_,_=>none
 | k+1,b,a,c,e,g,h,i,j,d=>if c < (d.length:Int) then (if 0≤c then (if (rd d c) < 0 then (some false) else (if (rd d c) > 9999 then (some false) else (if c > 0 then (if 0≤(wrap64 (c - 1)) then (if (wrap64 (c - 1)) < (d.length:Int) then (if (rd d (wrap64 (c - 1))) ≥ (rd d c) then (some false) else (spec_DealsOk.l1 k b a (wrap64 (c+1)) e g h i j d)) else (none)) else (none)) else (spec_DealsOk.l1 k b a (wrap64 (c+1)) e g h i j d)))) else (none)) else (spec_DealsOk.l0 k b (wrap64 (a+1)))
end
def spec_DealsOk.f (k:Nat) (l0:List (S44)):Option (Bool):=if (l0.length:Int) > 200 then (some false) else (spec_DealsOk.l0 k l0 0)
theorem spec_DealsOk.calls (k:Nat) (A0:Option Addr) (c0:Nat) (l0:List (S44)) (r:Bool) (w:World) (aF:Kd.C k44 w A0 l0.length l0) (aG:l0.length≤c0) (h:spec_DealsOk.f k l0=some r) :
  Calls Try.prog 6 #[Y A0 l0.length c0] w fun e w'=>e=.returned (.bool r)∧Below w.heap.size w w':=by
 have hu44:=Try.underlying44
 have hu29:=Try.underlying29
 have aX:=D aF
 have bc:=D aG
 clear aF aG
 have HB:=D (Below.refl w.heap.size w)
 have H:(if (l0.length:Int) > 200 then (some false) else (spec_DealsOk.l0 k l0 0))=some r:=h
 clear h
 by_cases c2:(l0.length:Int) > 200
 ·rw [if_pos c2] at H
  have ab:decide (200 < (l0.length:Int))=true:=decide_eq_true c2;have ac:decide (200 < l0.length)=true:=decide_eq_true (by omega);clear c2;obtain rfl:=Option.some.inj H;go_enter Try.func6,Try.ntmps6
  go_wp2
  repeat (go_quiet (fail);try go_wp2)
  go_ret;exact ⟨er_,pB_ HB.out⟩
 ·rw [if_neg c2] at H
  have ab:decide (200 < (l0.length:Int))=false:=decide_eq_false c2;have ac:decide (200 < l0.length)=false:=decide_eq_false (by omega);clear c2;have H':=D H;clear H;go_enter Try.func6,Try.ntmps6
  go_wp2
  repeat (go_quiet (fail);try go_wp2)
  go_loopg [3] k (fun kq v3 w'=>∃ (a:Int),v3=I L a∧Aside0 (spec_DealsOk.l0 kq l0 a=some r)∧Aside0 (kq≤k)∧Aside0 (Below w.heap.size w w'))
  case atStart=>exact ⟨(0),Z69,H',⟨Nat.le_refl _⟩,⟨pB_ HB.out⟩⟩
  case round =>
   clear H'
   (try clear c2);(try clear ab);(try clear ac);(try clear p2)
   obtain ⟨a,rfl,HA,u,HB⟩:=hrel
   cases gk with
   | zero=>exact absurd HA.out (by simp [spec_DealsOk.l0])
   | succ k1 =>
    have H:=HA.out;clear HA;simp only [spec_DealsOk.l0] at H
    by_cases c3:a < (l0.length:Int)
    ·rw [if_pos c3] at H
     have ap:decide (a < (l0.length:Int))=true:=decide_eq_true c3;clear c3
     by_cases c4:0≤a
     ·rw [if_pos c4] at H
      have aH:decide (0≤a)=true:=decide_eq_true c4;clear c4;have aq:=D H;clear H;have T:0≤(a:Int):=od_ Z68;have U:a < (l0.length:Int):=od_ Z68;obtain ⟨bd,i,j,aZ,af,ag,ah,ai,aj,ak,aI,aJ⟩:=at_T44 aX.out a T U;cases aZ;replace af:=rc_ HB.out af;replace ag:=rc_ HB.out ag;replace ah:=rc_ HB.out ah;replace ai:=rc_ HB.out ai;replace aj:=rc_ HB.out aj;replace ak:=rc_ HB.out ak;have m:=D aJ;have ar:=D aI;clear aJ aI;replace T:=eq_true T;replace U:=eq_true U
      go_upto_region 7 with (first|((with_reducible refine gate_dst (N:=4) rfl ?_);(try (refine gate_guard (by rfl) ?_;dsimp only));refine bx_ (N:=4) (cs:=#[I L 0,I L 0,I L 0,I L 0,I L 0,Y none 0 0]) (t:=44) ?_;intro Ka hg w6 hbox hb;have n_:=an_ (below_step (pB_ HB.out) hb)<|an_ (hbox)<|an_ (bg_ hg (pB_ HB.out):w.heap.size≤Ka)<|D (bg_ hg (pB_ HB.out):w.heap.size≤Ka);clear HB;obtain ⟨HB,Ja,Jj,Kj⟩:=n_;clear hb hbox hg;obtain ⟨Oa,Ua,Xa,Jb,Kb,Mb,Ob,Ub,Xb,Jc,Kc,Mc⟩:=cells6 Ja.out))
      repeat (go_quiet (first|((with_reducible refine gate_dst (N:=4) rfl ?_);(try (refine gate_guard (by rfl) ?_;dsimp only));refine bx_ (N:=4) (cs:=#[I L 0,I L 0,I L 0,I L 0,I L 0,Y none 0 0]) (t:=44) ?_;intro Ka hg w6 hbox hb;have n_:=an_ (below_step (pB_ HB.out) hb)<|an_ (hbox)<|an_ (bg_ hg (pB_ HB.out):w.heap.size≤Ka)<|D (bg_ hg (pB_ HB.out):w.heap.size≤Ka);clear HB;obtain ⟨HB,Ja,Jj,Kj⟩:=n_;clear hb hbox hg;obtain ⟨Oa,Ua,Xa,Jb,Kb,Mb,Ob,Ub,Xb,Jc,Kc,Mc⟩:=cells6 Ja.out));go_upto_region 7 with (first|((with_reducible refine gate_dst (N:=4) rfl ?_);(try (refine gate_guard (by rfl) ?_;dsimp only));refine bx_ (N:=4) (cs:=#[I L 0,I L 0,I L 0,I L 0,I L 0,Y none 0 0]) (t:=44) ?_;intro Ka hg w6 hbox hb;have n_:=an_ (below_step (pB_ HB.out) hb)<|an_ (hbox)<|an_ (bg_ hg (pB_ HB.out):w.heap.size≤Ka)<|D (bg_ hg (pB_ HB.out):w.heap.size≤Ka);clear HB;obtain ⟨HB,Ja,Jj,Kj⟩:=n_;clear hb hbox hg;obtain ⟨Oa,Ua,Xa,Jb,Kb,Mb,Ob,Ub,Xb,Jc,Kc,Mc⟩:=cells6 Ja.out)))
      (try simp only [Act.put,List.setIfInBounds_toArray,List.set_cons_zero,List.set_cons_succ])
      go_cut [42] (fun a0 wc=>∃ (kq:Nat) (Oc:Bool),a0=.bool Oc∧Aside0 (spec_DealsOk.j1 kq l0 a Oc ((rd_T44 l0 a).f0) ((rd_T44 l0 a).f1) ((rd_T44 l0 a).f2.f0) ((rd_T44 l0 a).f2.f1) ((rd_T44 l0 a).f2.f2) ((rd_T44 l0 a).f3)=some r)∧Aside0 (kq≤k1)∧Aside0 (wc.heap[Ka]?=some (.cells #[I L ((rd_T44 l0 a).f0),I L ((rd_T44 l0 a).f1),I L ((rd_T44 l0 a).f2.f0),I L ((rd_T44 l0 a).f2.f1),I L ((rd_T44 l0 a).f2.f2),(Y i ((rd_T44 l0 a).f3).length j)] 44 (0,0)))∧Aside0 (Below w.heap.size w wc))
      case first =>
       have H:=aq.out;clear aq;obtain ⟨Ms,aL,H⟩:=bs_.mp H;(try dsimp only at H);have n:=D aL;clear aL
       by_cases c9:Ms=true
       ·subst c9
        rw [if_pos rfl] at H;obtain ⟨Ma,aM,H⟩:=bs_.mp H;(try dsimp only at H);have v:=D aM;clear aM
        by_cases x:Ma=0
        ·rw [if_pos x] at H
         have W:(Ma == 0)=true:=beq_iff_eq.mpr x;have au:(Ma != 0)=false:=bne_eq_false_iff_eq.mpr x;clear x;refine rw_ W ?_;have H':=D H;clear H;have Mj:=cells6 Ja.out
         go_wp2_with (first|(go_at_call 19;(with_reducible refine (spec_ChargeOk.calls ((rd_T44 l0 a).f2.f0) ((rd_T44 l0 a).f2.f1) ((rd_T44 l0 a).f2.f2) true _ n.out).mono ?_);rintro e aN ⟨rfl,hb⟩;have n_:=an_ (blk_below (g:=Ka) (o:=.cells #[I L ((rd_T44 l0 a).f0),I L ((rd_T44 l0 a).f1),I L ((rd_T44 l0 a).f2.f0),I L ((rd_T44 l0 a).f2.f1),I L ((rd_T44 l0 a).f2.f2),Y i ((rd_T44 l0 a).f3).length j] 44 (0,0)) Z2 hb)<|D (below_step (pB_ HB.out) hb);clear Ja HB;obtain ⟨Ja,HB⟩:=n_;(try clear hb);obtain ⟨Uc,Xc,Jd,Md,Od,Ud,Xd,Je,Ke,Me,Oe,Ue⟩:=cells6 Ja.out)|(go_at_call 20;(with_reducible refine (spec_Stride.calls ((rd_T44 l0 a).f1) Ma _ v.out).mono ?_);rintro e w' ⟨rfl,⟨nd,rfl⟩⟩;(try first|exact ⟨rfl,_,World.drewN_drewN _ _ _⟩|exact ⟨rfl,_,Eq.trans (World.drewN_drewN _ _ _) (congrArg (World.drewN _) (Nat.add_assoc _ _ _))⟩)))
         repeat (go_quiet (first|(go_at_call 19;(with_reducible refine (spec_ChargeOk.calls ((rd_T44 l0 a).f2.f0) ((rd_T44 l0 a).f2.f1) ((rd_T44 l0 a).f2.f2) true _ n.out).mono ?_);rintro e aN ⟨rfl,hb⟩;have n_:=an_ (blk_below (g:=Ka) (o:=.cells #[I L ((rd_T44 l0 a).f0),I L ((rd_T44 l0 a).f1),I L ((rd_T44 l0 a).f2.f0),I L ((rd_T44 l0 a).f2.f1),I L ((rd_T44 l0 a).f2.f2),Y i ((rd_T44 l0 a).f3).length j] 44 (0,0)) Z2 hb)<|D (below_step (pB_ HB.out) hb);clear Ja HB;obtain ⟨Ja,HB⟩:=n_;(try clear hb);obtain ⟨Uc,Xc,Jd,Md,Od,Ud,Xd,Je,Ke,Me,Oe,Ue⟩:=cells6 Ja.out)|(go_at_call 20;(with_reducible refine (spec_Stride.calls ((rd_T44 l0 a).f1) Ma _ v.out).mono ?_);rintro e w' ⟨rfl,⟨nd,rfl⟩⟩;(try first|exact ⟨rfl,_,World.drewN_drewN _ _ _⟩|exact ⟨rfl,_,Eq.trans (World.drewN_drewN _ _ _) (congrArg (World.drewN _) (Nat.add_assoc _ _ _))⟩)));try go_wp2_with (first|(go_at_call 19;(with_reducible refine (spec_ChargeOk.calls ((rd_T44 l0 a).f2.f0) ((rd_T44 l0 a).f2.f1) ((rd_T44 l0 a).f2.f2) true _ n.out).mono ?_);rintro e aN ⟨rfl,hb⟩;have n_:=an_ (blk_below (g:=Ka) (o:=.cells #[I L ((rd_T44 l0 a).f0),I L ((rd_T44 l0 a).f1),I L ((rd_T44 l0 a).f2.f0),I L ((rd_T44 l0 a).f2.f1),I L ((rd_T44 l0 a).f2.f2),Y i ((rd_T44 l0 a).f3).length j] 44 (0,0)) Z2 hb)<|D (below_step (pB_ HB.out) hb);clear Ja HB;obtain ⟨Ja,HB⟩:=n_;(try clear hb);obtain ⟨Uc,Xc,Jd,Md,Od,Ud,Xd,Je,Ke,Me,Oe,Ue⟩:=cells6 Ja.out)|(go_at_call 20;(with_reducible refine (spec_Stride.calls ((rd_T44 l0 a).f1) Ma _ v.out).mono ?_);rintro e w' ⟨rfl,⟨nd,rfl⟩⟩;(try first|exact ⟨rfl,_,World.drewN_drewN _ _ _⟩|exact ⟨rfl,_,Eq.trans (World.drewN_drewN _ _ _) (congrArg (World.drewN _) (Nat.add_assoc _ _ _))⟩))))
         go_meet
         case rel=>exact ⟨_,(true),Z69,H',⟨by have:=u.out;first | omega | exact Nat.le_refl _⟩,⟨pk_ Ja.out⟩,⟨pB_ HB.out⟩⟩
        ·rw [if_neg x] at H
         have W:(Ma == 0)=false:=beq_eq_false_iff_ne.mpr x;have au:(Ma != 0)=true:=bne_iff_ne.mpr x;refine rw_ W ?_
         by_cases y:(((rd_T44 l0 a).f3).length:Int) > 10000
         ·rw [if_pos y] at H
          have av:decide (10000 < (((rd_T44 l0 a).f3).length:Int))=true:=decide_eq_true y;have aw:decide (10000 < ((rd_T44 l0 a).f3).length)=true:=decide_eq_true (by omega);clear y;have H':=D H;clear H;have Mm:=cells6 Ja.out
          go_wp2_with (first|(go_at_call 19;(with_reducible refine (spec_ChargeOk.calls ((rd_T44 l0 a).f2.f0) ((rd_T44 l0 a).f2.f1) ((rd_T44 l0 a).f2.f2) true _ n.out).mono ?_);rintro e aO ⟨rfl,hb⟩;have n_:=an_ (blk_below (g:=Ka) (o:=.cells #[I L ((rd_T44 l0 a).f0),I L ((rd_T44 l0 a).f1),I L ((rd_T44 l0 a).f2.f0),I L ((rd_T44 l0 a).f2.f1),I L ((rd_T44 l0 a).f2.f2),Y i ((rd_T44 l0 a).f3).length j] 44 (0,0)) Z2 hb)<|D (below_step (pB_ HB.out) hb);clear Ja HB;obtain ⟨Ja,HB⟩:=n_;(try clear hb);obtain ⟨Xe,Jf,Kf,Mf,Of,Uf,Xf,Jg,Kg,Mg,Og,Ug⟩:=cells6 Ja.out)|(go_at_call 20;(with_reducible refine (spec_Stride.calls ((rd_T44 l0 a).f1) Ma _ v.out).mono ?_);rintro e w' ⟨rfl,⟨nd,rfl⟩⟩;(try first|exact ⟨rfl,_,World.drewN_drewN _ _ _⟩|exact ⟨rfl,_,Eq.trans (World.drewN_drewN _ _ _) (congrArg (World.drewN _) (Nat.add_assoc _ _ _))⟩)))
          repeat (go_quiet (first|(go_at_call 19;(with_reducible refine (spec_ChargeOk.calls ((rd_T44 l0 a).f2.f0) ((rd_T44 l0 a).f2.f1) ((rd_T44 l0 a).f2.f2) true _ n.out).mono ?_);rintro e aO ⟨rfl,hb⟩;have n_:=an_ (blk_below (g:=Ka) (o:=.cells #[I L ((rd_T44 l0 a).f0),I L ((rd_T44 l0 a).f1),I L ((rd_T44 l0 a).f2.f0),I L ((rd_T44 l0 a).f2.f1),I L ((rd_T44 l0 a).f2.f2),Y i ((rd_T44 l0 a).f3).length j] 44 (0,0)) Z2 hb)<|D (below_step (pB_ HB.out) hb);clear Ja HB;obtain ⟨Ja,HB⟩:=n_;(try clear hb);obtain ⟨Xe,Jf,Kf,Mf,Of,Uf,Xf,Jg,Kg,Mg,Og,Ug⟩:=cells6 Ja.out)|(go_at_call 20;(with_reducible refine (spec_Stride.calls ((rd_T44 l0 a).f1) Ma _ v.out).mono ?_);rintro e w' ⟨rfl,⟨nd,rfl⟩⟩;(try first|exact ⟨rfl,_,World.drewN_drewN _ _ _⟩|exact ⟨rfl,_,Eq.trans (World.drewN_drewN _ _ _) (congrArg (World.drewN _) (Nat.add_assoc _ _ _))⟩)));try go_wp2_with (first|(go_at_call 19;(with_reducible refine (spec_ChargeOk.calls ((rd_T44 l0 a).f2.f0) ((rd_T44 l0 a).f2.f1) ((rd_T44 l0 a).f2.f2) true _ n.out).mono ?_);rintro e aO ⟨rfl,hb⟩;have n_:=an_ (blk_below (g:=Ka) (o:=.cells #[I L ((rd_T44 l0 a).f0),I L ((rd_T44 l0 a).f1),I L ((rd_T44 l0 a).f2.f0),I L ((rd_T44 l0 a).f2.f1),I L ((rd_T44 l0 a).f2.f2),Y i ((rd_T44 l0 a).f3).length j] 44 (0,0)) Z2 hb)<|D (below_step (pB_ HB.out) hb);clear Ja HB;obtain ⟨Ja,HB⟩:=n_;(try clear hb);obtain ⟨Xe,Jf,Kf,Mf,Of,Uf,Xf,Jg,Kg,Mg,Og,Ug⟩:=cells6 Ja.out)|(go_at_call 20;(with_reducible refine (spec_Stride.calls ((rd_T44 l0 a).f1) Ma _ v.out).mono ?_);rintro e w' ⟨rfl,⟨nd,rfl⟩⟩;(try first|exact ⟨rfl,_,World.drewN_drewN _ _ _⟩|exact ⟨rfl,_,Eq.trans (World.drewN_drewN _ _ _) (congrArg (World.drewN _) (Nat.add_assoc _ _ _))⟩))))
          go_meet
          case rel=>exact ⟨_,(true),Z69,H',⟨by have:=u.out;first | omega | exact Nat.le_refl _⟩,⟨pk_ Ja.out⟩,⟨pB_ HB.out⟩⟩
         ·rw [if_neg y] at H
          have av:decide (10000 < (((rd_T44 l0 a).f3).length:Int))=false:=decide_eq_false y;have aw:decide (10000 < ((rd_T44 l0 a).f3).length)=false:=decide_eq_false (by omega);clear y;obtain ⟨Xg,aP,H⟩:=bs_.mp H;(try dsimp only at H);have ax:=D aP;clear aP;have H':=D H;clear H;have Mo:=cells6 Ja.out
          go_wp2_with (first|(go_at_call 19;(with_reducible refine (spec_ChargeOk.calls ((rd_T44 l0 a).f2.f0) ((rd_T44 l0 a).f2.f1) ((rd_T44 l0 a).f2.f2) true _ n.out).mono ?_);rintro e aQ ⟨rfl,hb⟩;have n_:=an_ (blk_below (g:=Ka) (o:=.cells #[I L ((rd_T44 l0 a).f0),I L ((rd_T44 l0 a).f1),I L ((rd_T44 l0 a).f2.f0),I L ((rd_T44 l0 a).f2.f1),I L ((rd_T44 l0 a).f2.f2),Y i ((rd_T44 l0 a).f3).length j] 44 (0,0)) Z2 hb)<|D (below_step (pB_ HB.out) hb);clear Ja HB;obtain ⟨Ja,HB⟩:=n_;(try clear hb);obtain ⟨Jh,Kh,Mh,Oh,Uh,Xh,Ji,Ki,Mi,Oi,Ui,Xi⟩:=cells6 Ja.out)|(go_at_call 20;(with_reducible refine (spec_Stride.calls ((rd_T44 l0 a).f1) Ma _ v.out).mono ?_);rintro e w' ⟨rfl,⟨nd,rfl⟩⟩;(try first|exact ⟨rfl,_,World.drewN_drewN _ _ _⟩|exact ⟨rfl,_,Eq.trans (World.drewN_drewN _ _ _) (congrArg (World.drewN _) (Nat.add_assoc _ _ _))⟩))|(go_at_call 21;(with_reducible refine (spec_l19In.calls k1 _ _ ((rd_T44 l0 a).f3) ((rd_T44 l0 a).f0) Xg _ ?side1 ?side2 ax.out).mono ?_);(case side1=>exact pC_ (Kd.C_below m.out (pB_ HB.out)));(case side2=>exact ar.out);rintro e w' ⟨rfl,⟨nd,rfl⟩⟩;(try first|exact ⟨rfl,_,World.drewN_drewN _ _ _⟩|exact ⟨rfl,_,Eq.trans (World.drewN_drewN _ _ _) (congrArg (World.drewN _) (Nat.add_assoc _ _ _))⟩)))
          repeat (go_quiet (first|(go_at_call 19;(with_reducible refine (spec_ChargeOk.calls ((rd_T44 l0 a).f2.f0) ((rd_T44 l0 a).f2.f1) ((rd_T44 l0 a).f2.f2) true _ n.out).mono ?_);rintro e aQ ⟨rfl,hb⟩;have n_:=an_ (blk_below (g:=Ka) (o:=.cells #[I L ((rd_T44 l0 a).f0),I L ((rd_T44 l0 a).f1),I L ((rd_T44 l0 a).f2.f0),I L ((rd_T44 l0 a).f2.f1),I L ((rd_T44 l0 a).f2.f2),Y i ((rd_T44 l0 a).f3).length j] 44 (0,0)) Z2 hb)<|D (below_step (pB_ HB.out) hb);clear Ja HB;obtain ⟨Ja,HB⟩:=n_;(try clear hb);obtain ⟨Jh,Kh,Mh,Oh,Uh,Xh,Ji,Ki,Mi,Oi,Ui,Xi⟩:=cells6 Ja.out)|(go_at_call 20;(with_reducible refine (spec_Stride.calls ((rd_T44 l0 a).f1) Ma _ v.out).mono ?_);rintro e w' ⟨rfl,⟨nd,rfl⟩⟩;(try first|exact ⟨rfl,_,World.drewN_drewN _ _ _⟩|exact ⟨rfl,_,Eq.trans (World.drewN_drewN _ _ _) (congrArg (World.drewN _) (Nat.add_assoc _ _ _))⟩))|(go_at_call 21;(with_reducible refine (spec_l19In.calls k1 _ _ ((rd_T44 l0 a).f3) ((rd_T44 l0 a).f0) Xg _ ?side1 ?side2 ax.out).mono ?_);(case side1=>exact pC_ (Kd.C_below m.out (pB_ HB.out)));(case side2=>exact ar.out);rintro e w' ⟨rfl,⟨nd,rfl⟩⟩;(try first|exact ⟨rfl,_,World.drewN_drewN _ _ _⟩|exact ⟨rfl,_,Eq.trans (World.drewN_drewN _ _ _) (congrArg (World.drewN _) (Nat.add_assoc _ _ _))⟩)));try go_wp2_with (first|(go_at_call 19;(with_reducible refine (spec_ChargeOk.calls ((rd_T44 l0 a).f2.f0) ((rd_T44 l0 a).f2.f1) ((rd_T44 l0 a).f2.f2) true _ n.out).mono ?_);rintro e aQ ⟨rfl,hb⟩;have n_:=an_ (blk_below (g:=Ka) (o:=.cells #[I L ((rd_T44 l0 a).f0),I L ((rd_T44 l0 a).f1),I L ((rd_T44 l0 a).f2.f0),I L ((rd_T44 l0 a).f2.f1),I L ((rd_T44 l0 a).f2.f2),Y i ((rd_T44 l0 a).f3).length j] 44 (0,0)) Z2 hb)<|D (below_step (pB_ HB.out) hb);clear Ja HB;obtain ⟨Ja,HB⟩:=n_;(try clear hb);obtain ⟨Jh,Kh,Mh,Oh,Uh,Xh,Ji,Ki,Mi,Oi,Ui,Xi⟩:=cells6 Ja.out)|(go_at_call 20;(with_reducible refine (spec_Stride.calls ((rd_T44 l0 a).f1) Ma _ v.out).mono ?_);rintro e w' ⟨rfl,⟨nd,rfl⟩⟩;(try first|exact ⟨rfl,_,World.drewN_drewN _ _ _⟩|exact ⟨rfl,_,Eq.trans (World.drewN_drewN _ _ _) (congrArg (World.drewN _) (Nat.add_assoc _ _ _))⟩))|(go_at_call 21;(with_reducible refine (spec_l19In.calls k1 _ _ ((rd_T44 l0 a).f3) ((rd_T44 l0 a).f0) Xg _ ?side1 ?side2 ax.out).mono ?_);(case side1=>exact pC_ (Kd.C_below m.out (pB_ HB.out)));(case side2=>exact ar.out);rintro e w' ⟨rfl,⟨nd,rfl⟩⟩;(try first|exact ⟨rfl,_,World.drewN_drewN _ _ _⟩|exact ⟨rfl,_,Eq.trans (World.drewN_drewN _ _ _) (congrArg (World.drewN _) (Nat.add_assoc _ _ _))⟩))))
          go_meet
          case rel=>exact ⟨_,(!Xg),Z69,H',⟨by have:=u.out;first | omega | exact Nat.le_refl _⟩,⟨pk_ Ja.out⟩,⟨pB_ HB.out⟩⟩
       ·replace c9:=Bool.eq_false_iff.mpr c9
        subst c9;rw [if_neg (show ¬ (false=true) by decide)] at H;have H':=D H;clear H;obtain ⟨Mq,Oq,Uq,Xq,Jr,Kr,Mr,Or,Ur,Xr,Js,Ks⟩:=cells6 Ja.out
        go_wp2_with (first|(go_at_call 19;(with_reducible refine (spec_ChargeOk.calls ((rd_T44 l0 a).f2.f0) ((rd_T44 l0 a).f2.f1) ((rd_T44 l0 a).f2.f2) false _ n.out).mono ?_);rintro e aR ⟨rfl,hb⟩;have n_:=an_ (blk_below (g:=Ka) (o:=.cells #[I L ((rd_T44 l0 a).f0),I L ((rd_T44 l0 a).f1),I L ((rd_T44 l0 a).f2.f0),I L ((rd_T44 l0 a).f2.f1),I L ((rd_T44 l0 a).f2.f2),Y i ((rd_T44 l0 a).f3).length j] 44 (0,0)) Z2 hb)<|D (below_step (pB_ HB.out) hb);clear Ja HB;obtain ⟨Ja,HB⟩:=n_;(try clear hb)))
        repeat (go_quiet (first|(go_at_call 19;(with_reducible refine (spec_ChargeOk.calls ((rd_T44 l0 a).f2.f0) ((rd_T44 l0 a).f2.f1) ((rd_T44 l0 a).f2.f2) false _ n.out).mono ?_);rintro e aR ⟨rfl,hb⟩;have n_:=an_ (blk_below (g:=Ka) (o:=.cells #[I L ((rd_T44 l0 a).f0),I L ((rd_T44 l0 a).f1),I L ((rd_T44 l0 a).f2.f0),I L ((rd_T44 l0 a).f2.f1),I L ((rd_T44 l0 a).f2.f2),Y i ((rd_T44 l0 a).f3).length j] 44 (0,0)) Z2 hb)<|D (below_step (pB_ HB.out) hb);clear Ja HB;obtain ⟨Ja,HB⟩:=n_;(try clear hb)));try go_wp2_with (first|(go_at_call 19;(with_reducible refine (spec_ChargeOk.calls ((rd_T44 l0 a).f2.f0) ((rd_T44 l0 a).f2.f1) ((rd_T44 l0 a).f2.f2) false _ n.out).mono ?_);rintro e aR ⟨rfl,hb⟩;have n_:=an_ (blk_below (g:=Ka) (o:=.cells #[I L ((rd_T44 l0 a).f0),I L ((rd_T44 l0 a).f1),I L ((rd_T44 l0 a).f2.f0),I L ((rd_T44 l0 a).f2.f1),I L ((rd_T44 l0 a).f2.f2),Y i ((rd_T44 l0 a).f3).length j] 44 (0,0)) Z2 hb)<|D (below_step (pB_ HB.out) hb);clear Ja HB;obtain ⟨Ja,HB⟩:=n_;(try clear hb))))
        go_meet
        case rel=>exact ⟨_,(true),Z69,H',⟨by have:=u.out;first | omega | exact Nat.le_refl _⟩,⟨pk_ Ja.out⟩,⟨pB_ HB.out⟩⟩
      case rest =>
       clear aq
       (try clear c1);(try clear c2);(try clear ab);(try clear ac);(try clear p2);(try clear c3);(try clear ap);(try clear c4);(try clear aH);(try clear c6);(try clear c7);(try clear p7);(try clear q7);(try clear a2);(try clear c9);(try clear x);(try clear W);(try clear au);(try clear y);(try clear av);(try clear aw);(try clear Mj);(try clear Uc Xc Jd Md Od Ud Xd Je Ke Me Oe Ue);(try clear Mm);(try clear Xe Jf Kf Mf Of Uf Xf Jg Kg Mg Og Ug);(try clear Mo);(try clear Jh Kh Mh Oh Uh Xh Ji Ki Mi Oi Ui Xi);(try clear Mq Oq Uq Xq Jr Kr Mr Or Ur Xr Js Ks);(try clear Oa Ua Xa Jb Kb Mb Ob Ub Xb Jc Kc Mc);(try clear af ag ah ai aj ak);(try clear p2);(try clear T);(try clear U)
       obtain ⟨kq,Oc,rfl,HA,E,Ja,HB⟩:=hcut
       cases kq with
       | zero=>exact absurd HA.out (by simp [spec_DealsOk.j1])
       | succ kj4 =>
        have H:=HA.out;clear HA;simp only [spec_DealsOk.j1] at H
        by_cases X:Oc=true
        ·subst X
         rw [if_pos rfl] at H;obtain rfl:=Option.some.inj H
         go_wp2
         repeat (go_quiet (fail);try go_wp2)
         go_ret;exact ⟨er_,pB_ HB.out⟩
        ·replace X:=Bool.eq_false_iff.mpr X
         subst X;rw [if_neg (show ¬ (false=true) by decide)] at H;have H':=D H;clear H
         go_wp2
         repeat (go_quiet (fail);try go_wp2)
         go_loopg [5] kj4 (fun kq v5 w'=>∃ (b:Int),v5=I L b∧Aside0 (spec_DealsOk.l1 kq l0 a b ((rd_T44 l0 a).f0) ((rd_T44 l0 a).f1) ((rd_T44 l0 a).f2.f0) ((rd_T44 l0 a).f2.f1) ((rd_T44 l0 a).f2.f2) ((rd_T44 l0 a).f3)=some r)∧Aside0 (kq≤kj4)∧Aside0 (w'.heap[Ka]?=some (.cells #[I L ((rd_T44 l0 a).f0),I L ((rd_T44 l0 a).f1),I L ((rd_T44 l0 a).f2.f0),I L ((rd_T44 l0 a).f2.f1),I L ((rd_T44 l0 a).f2.f2),(Y i ((rd_T44 l0 a).f3).length j)] 44 (0,0)))∧Aside0 (Below w.heap.size w w'))
         case atStart=>exact ⟨(0),Z69,H',⟨Nat.le_refl _⟩,⟨pk_ Ja.out⟩,⟨pB_ HB.out⟩⟩
         case round =>
          clear H'
          (try clear c1);(try clear c2);(try clear ab);(try clear ac);(try clear p2);(try clear c3);(try clear ap);(try clear c4);(try clear aH);(try clear c6);(try clear c7);(try clear p7);(try clear q7);(try clear a2);(try clear c9);(try clear x);(try clear W);(try clear au);(try clear y);(try clear av);(try clear aw);(try clear X);(try clear Mj);(try clear Uc Xc Jd Md Od Ud Xd Je Ke Me Oe Ue);(try clear Mm);(try clear Xe Jf Kf Mf Of Uf Xf Jg Kg Mg Og Ug);(try clear Mo);(try clear Jh Kh Mh Oh Uh Xh Ji Ki Mi Oi Ui Xi);(try clear Mq Oq Uq Xq Jr Kr Mr Or Ur Xr Js Ks);(try clear Oa Ua Xa Jb Kb Mb Ob Ub Xb Jc Kc Mc);(try clear af ag ah ai aj ak);(try clear p2);(try clear p7);(try clear T);(try clear q7);(try clear U)
          obtain ⟨b,rfl,HA,G,Ja,HB⟩:=hrel
          cases gk with
          | zero=>exact absurd HA.out (by simp [spec_DealsOk.l1])
          | succ k3 =>
           have H:=HA.out;clear HA;simp only [spec_DealsOk.l1] at H
           by_cases J:b < (((rd_T44 l0 a).f3).length:Int)
           ·rw [if_pos J] at H
            have a4:decide (b < (((rd_T44 l0 a).f3).length:Int))=true:=decide_eq_true J;clear J
            by_cases am:0≤b
            ·rw [if_pos am] at H
             have be:decide (0≤b)=true:=decide_eq_true am;clear am
             by_cases K:(rd ((rd_T44 l0 a).f3) b) < 0
             ·rw [if_pos K] at H
              have a5:decide ((rd ((rd_T44 l0 a).f3) b) < 0)=true:=decide_eq_true K;clear K;obtain rfl:=Option.some.inj H;have Us:=cells6 Ja.out;have c:0≤(b:Int):=od_ Z68;have d:b < (((rd_T44 l0 a).f3).length:Int):=od_ Z68;obtain ⟨z,B,p⟩:=Kd.at_int m.out b c d;cases B;replace p:=rc_ HB.out p;replace c:=eq_true c;replace d:=eq_true d
              go_wp2
              repeat (go_quiet (fail);try go_wp2)
              go_ret;exact ⟨er_,pB_ HB.out⟩
             ·rw [if_neg K] at H
              have a5:decide ((rd ((rd_T44 l0 a).f3) b) < 0)=false:=decide_eq_false K;clear K
              by_cases M:(rd ((rd_T44 l0 a).f3) b) > 9999
              ·rw [if_pos M] at H
               have a6:decide (9999 < (rd ((rd_T44 l0 a).f3) b))=true:=decide_eq_true M;clear M;obtain rfl:=Option.some.inj H;have Uv:=cells6 Ja.out;have c:0≤(b:Int):=od_ Z68;have d:b < (((rd_T44 l0 a).f3).length:Int):=od_ Z68;obtain ⟨z,B,p⟩:=Kd.at_int m.out b c d;cases B;replace p:=rc_ HB.out p;replace c:=eq_true c;replace d:=eq_true d;have q:0≤(b:Int):=od_ Z68;have s:b < (((rd_T44 l0 a).f3).length:Int):=od_ Z68;obtain ⟨Z,aa,A⟩:=Kd.at_int m.out b q s;obtain rfl:z=Z:=(by injection aa);replace A:=rc_ HB.out A;replace q:=eq_true q;replace s:=eq_true s
               go_wp2
               repeat (go_quiet (fail);try go_wp2)
               go_ret;exact ⟨er_,pB_ HB.out⟩
              ·rw [if_neg M] at H
               have a6:decide (9999 < (rd ((rd_T44 l0 a).f3) b))=false:=decide_eq_false M;clear M
               by_cases O:b > 0
               ·rw [if_pos O] at H
                have a7:decide (0 < b)=true:=decide_eq_true O;clear O;obtain ⟨l,hji33⟩:∃ j_:Int,(wrap64 (b - 1))=j_:=⟨_,rfl⟩
                replace H:(if 0≤(l) then (if (l) < (((rd_T44 l0 a).f3).length:Int) then (if (rd ((rd_T44 l0 a).f3) (l)) ≥ (rd ((rd_T44 l0 a).f3) b) then (some false) else (spec_DealsOk.l1 k3 l0 a (wrap64 (b+1)) ((rd_T44 l0 a).f0) ((rd_T44 l0 a).f1) ((rd_T44 l0 a).f2.f0) ((rd_T44 l0 a).f2.f1) ((rd_T44 l0 a).f2.f2) ((rd_T44 l0 a).f3))) else (none)) else (none))=some r:=by first|(rw [hji33] at H;exact H)|(simp only [hji33] at H ⊢;exact H)
                have hji33w:(IntKind.i64.wrap (b - 1))=l:=(i64_w _).trans hji33
                by_cases an:0≤(l)
                ·rw [if_pos an] at H
                 have bf:decide (0≤(l))=true:=decide_eq_true an;clear an
                 by_cases ao:(l) < (((rd_T44 l0 a).f3).length:Int)
                 ·rw [if_pos ao] at H
                  have bg:decide ((l) < (((rd_T44 l0 a).f3).length:Int))=true:=decide_eq_true ao;clear ao;have aU:=D H;clear H;have Uy:=cells6 Ja.out;have c:0≤(b:Int):=od_ Z68;have d:b < (((rd_T44 l0 a).f3).length:Int):=od_ Z68;obtain ⟨z,B,p⟩:=Kd.at_int m.out b c d;cases B;replace p:=rc_ HB.out p;replace c:=eq_true c;replace d:=eq_true d;have q:0≤(b:Int):=od_ Z68;have s:b < (((rd_T44 l0 a).f3).length:Int):=od_ Z68;obtain ⟨Z,aa,A⟩:=Kd.at_int m.out b q s;obtain rfl:z=Z:=(by injection aa);replace A:=rc_ HB.out A;replace q:=eq_true q;replace s:=eq_true s;have ay:0≤((l):Int):=od_ Z68;have az:(l) < (((rd_T44 l0 a).f3).length:Int):=od_ Z68;obtain ⟨a8,a9,aV⟩:=Kd.at_int m.out (l) ay az;obtain rfl:z=a8:=(by injection a9);replace aV:=rc_ HB.out aV;replace ay:=eq_true ay;replace az:=eq_true az;have aA:0≤(b:Int):=od_ Z68;have aB:b < (((rd_T44 l0 a).f3).length:Int):=od_ Z68;obtain ⟨ba,bb,aW⟩:=Kd.at_int m.out b aA aB;obtain rfl:z=ba:=(by injection bb);replace aW:=rc_ HB.out aW;replace aA:=eq_true aA;replace aB:=eq_true aB
                  go_upto_if 81 with (fail)
                  repeat (go_quiet (fail);go_upto_if 81 with (fail))
                  have H:=aU.out;clear aU
                  by_cases P:(rd ((rd_T44 l0 a).f3) (l)) ≥ (rd ((rd_T44 l0 a).f3) b)
                  ·rw [if_pos P] at H
                   have aC:decide ((rd ((rd_T44 l0 a).f3) b)≤(rd ((rd_T44 l0 a).f3) (l)))=true:=decide_eq_true P;clear P;refine rw_ aC ?_;obtain rfl:=Option.some.inj H
                   go_wp2
                   repeat (go_quiet (fail);try go_wp2)
                   go_ret;exact ⟨by first|rfl|(simp [errW_none,errW_some] <;> rfl)|(simp only [← hji33];first|rfl|(simp [errW_none,errW_some] <;> rfl))|(simp [*,errW_none,errW_some] <;> rfl),pB_ HB.out⟩
                  ·rw [if_neg P] at H
                   have aC:decide ((rd ((rd_T44 l0 a).f3) b)≤(rd ((rd_T44 l0 a).f3) (l)))=false:=decide_eq_false P;clear P;refine rw_ aC ?_;have H':=D H;clear H
                   go_wp2
                   repeat (go_quiet (fail);try go_wp2)
                   go_roundg k3
                   case measure=>have:=u.out;have:=E.out;have:=G.out;omega
                   case rel=>exact ⟨(wrap64 (b+1)),Z69,H',⟨by have:=u.out;have:=E.out;have:=G.out;omega⟩,⟨pk_ Ja.out⟩,⟨pB_ HB.out⟩⟩
                 ·rw [if_neg ao] at H
                  exact absurd H (by simp)
                ·rw [if_neg an] at H
                 exact absurd H (by simp)
               ·rw [if_neg O] at H
                have a7:decide (0 < b)=false:=decide_eq_false O;clear O;have H':=D H;clear H;have Ua1:=cells6 Ja.out;have c:0≤(b:Int):=od_ Z68;have d:b < (((rd_T44 l0 a).f3).length:Int):=od_ Z68;obtain ⟨z,B,p⟩:=Kd.at_int m.out b c d;cases B;replace p:=rc_ HB.out p;replace c:=eq_true c;replace d:=eq_true d;have q:0≤(b:Int):=od_ Z68;have s:b < (((rd_T44 l0 a).f3).length:Int):=od_ Z68;obtain ⟨Z,aa,A⟩:=Kd.at_int m.out b q s;obtain rfl:z=Z:=(by injection aa);replace A:=rc_ HB.out A;replace q:=eq_true q;replace s:=eq_true s
                go_wp2
                repeat (go_quiet (fail);try go_wp2)
                go_roundg k3
                case measure=>have:=u.out;have:=E.out;have:=G.out;omega
                case rel=>exact ⟨(wrap64 (b+1)),Z69,H',⟨by have:=u.out;have:=E.out;have:=G.out;omega⟩,⟨pk_ Ja.out⟩,⟨pB_ HB.out⟩⟩
            ·rw [if_neg am] at H
             exact absurd H (by simp)
           ·rw [if_neg J] at H
            have a4:decide (b < (((rd_T44 l0 a).f3).length:Int))=false:=decide_eq_false J;clear J;have H':=D H;clear H;have Uc1:=cells6 Ja.out
            go_wp2
            repeat (go_quiet (fail);try go_wp2)
            go_roundg k3
            case measure=>have:=u.out;have:=E.out;have:=G.out;omega
            case rel=>exact ⟨(wrap64 (a+1)),Z69,H',⟨by have:=u.out;have:=E.out;have:=G.out;omega⟩,⟨pB_ HB.out⟩⟩
     ·rw [if_neg c4] at H
      exact absurd H (by simp)
    ·rw [if_neg c3] at H
     have ap:decide (a < (l0.length:Int))=false:=decide_eq_false c3;clear c3;obtain rfl:=Option.some.inj H
     go_wp2
     repeat (go_quiet (fail);try go_wp2)
     go_ret;exact ⟨er_,pB_ HB.out⟩
def slices_IndexFunc_impl_Deal_impl_Deal.l0:Nat→List (S44)→(Int→Int→Int→Int→Int→(List Int)→Option (Bool))→Int→Int→Option (Int)
 | 0,_,_,_,_=>none
 | k+1,b,c,d,a=>if a < d then (if 0≤a then (if a < (b.length:Int) then ((c ((rd_T44 b a).f0) ((rd_T44 b a).f1) ((rd_T44 b a).f2.f0) ((rd_T44 b a).f2.f1) ((rd_T44 b a).f2.f2) ((rd_T44 b a).f3)).bind fun Os=>(if Os=true then (some a) else (slices_IndexFunc_impl_Deal_impl_Deal.l0 k b c d (wrap64 (a+1))))) else (none)) else (none)) else (some (-1))
def slices_IndexFunc_impl_Deal_impl_Deal.f (k:Nat) (l0:List (S44)) (a:(Int→Int→Int→Int→Int→(List Int)→Option (Bool))):Option (Int):=slices_IndexFunc_impl_Deal_impl_Deal.l0 k l0 a (l0.length:Int) 0
theorem slices_IndexFunc_impl_Deal_impl_Deal.calls (k : Nat) (m : Option Addr) (n : Nat) (l0 : List (S44)) (c : (Int → Int → Int → Int → Int → (List Int) → Option (Bool))) (d : Nat) (g : Array Value) (r : Int) (w : World) (o : Kd.C k44 w m l0.length l0) (p : l0.length ≤ n) (hq1 : Aside0 (∃ F_, Try.prog.funcs[d]? = some F_ ∧ (F_.name == "runtime.NumGoroutine") = false ∧ F_.body.isSome = true)) (HP1_66 : Aside0 (∀ (q s t u v : Int) (x : Option Addr) (y : Nat) (b : List Int) (z : Bool) (W_ : World), Below w.heap.size w W_ → Kd.C (Kd.int .i64) W_ x b.length b → b.length ≤ y → c q s t u v b = some z → Calls Try.prog d (#[.agg #[I L q, I L s, I L t, I L u, I L v, Y x b.length y]] ++ g) W_ (fun e w' => e = .returned (.bool z) ∧ Below W_.heap.size W_ w'))) (h : slices_IndexFunc_impl_Deal_impl_Deal.f k l0 c = some r) :
  Calls Try.prog 66 #[Y m l0.length n,.func (.func d) #[] g] w fun e w'=>e=.returned (I L r)∧Below w.heap.size w w':=by
 have hu44:=Try.underlying44
 have Z:=D o
 have aj:=D p
 clear o p
 have HB:=D (Below.refl w.heap.size w)
 have H:(slices_IndexFunc_impl_Deal_impl_Deal.l0 k l0 c (l0.length:Int) 0)=some r:=h
 clear h
 have H':=D H
 clear H
 go_enter Try.func66,Try.ntmps66
 go_wp2
 go_loopg [8] k (fun kq v8 w'=>∃ (a:Int),v8=I L a∧Aside0 (slices_IndexFunc_impl_Deal_impl_Deal.l0 kq l0 c (l0.length:Int) a=some r)∧Aside0 (kq≤k)∧Aside0 (Below w.heap.size w w'))
 case atStart=>exact ⟨(0),Z69,H',⟨Nat.le_refl _⟩,⟨pB_ HB.out⟩⟩
 case round =>
  clear H'
  try clear p2
  obtain ⟨a,rfl,HA,A,HB⟩:=hrel
  cases gk with
  | zero=>exact absurd HA.out (by simp [slices_IndexFunc_impl_Deal_impl_Deal.l0])
  | succ k1 =>
   have H:=HA.out;clear HA;simp only [slices_IndexFunc_impl_Deal_impl_Deal.l0] at H
   by_cases c3:a < (l0.length:Int)
   ·rw [if_pos c3] at H
    have ac:decide (a < (l0.length:Int))=true:=decide_eq_true c3;clear c3
    by_cases c4:0≤a
    ·rw [if_pos c4] at H
     have al:decide (0≤a)=true:=decide_eq_true c4;clear c4
     by_cases c5:a < (l0.length:Int)
     ·rw [if_pos c5] at H
      have am:decide (a < (l0.length:Int))=true:=decide_eq_true c5;clear c5;obtain ⟨B,E,H⟩:=bs_.mp H;(try dsimp only at H);have A6:=D E;clear E;have G:=D H;clear H;have i:0≤(a:Int):=od_ Z68;have l:a < (l0.length:Int):=od_ Z68;obtain ⟨an,ae,af,ag,J,K,M,O,P,T,U,W⟩:=at_T44 Z.out a i l;cases ag;replace J:=rc_ HB.out J;replace K:=rc_ HB.out K;replace M:=rc_ HB.out M;replace O:=rc_ HB.out O;replace P:=rc_ HB.out P;replace T:=rc_ HB.out T;have ah:=D W;have ai:=D U;clear W U;replace i:=eq_true i;replace l:=eq_true l
      go_upto_if 16 with (first|((with_reducible refine gate_calleeV (j:=11) rfl ?_);obtain ⟨_,hF1_,hF2_,hF3_⟩:=hq1.out;refine goesVL_ (some 16) rfl rfl hF1_ hF2_ hF3_ #[.agg #[I L ((rd_T44 l0 a).f0),I L ((rd_T44 l0 a).f1),I L ((rd_T44 l0 a).f2.f0),I L ((rd_T44 l0 a).f2.f1),I L ((rd_T44 l0 a).f2.f2),Y ae ((rd_T44 l0 a).f3).length af]] (cp:=g) rfl Z71 Z20 ?_;(with_reducible refine (HP1_66.out ((rd_T44 l0 a).f0) ((rd_T44 l0 a).f1) ((rd_T44 l0 a).f2.f0) ((rd_T44 l0 a).f2.f1) ((rd_T44 l0 a).f2.f2) _ _ ((rd_T44 l0 a).f3) B _ ?side1 ?side2 ?side3 A6.out).mono ?_);(case side1=>exact pB_ HB.out);(case side2=>exact pC_ (Kd.C_below ah.out HB.out));(case side3=>exact ai.out);rintro e w8 ⟨rfl,hb⟩;refine ⟨_,rfl,?_⟩;have X:=D (below_step (pB_ HB.out) hb);clear HB;have HB:=X;clear X;(try clear hb)))
      have H:=G.out;clear G
      by_cases c9:B=true
      ·subst c9
       rw [if_pos rfl] at H;obtain rfl:=Option.some.inj H
       go_wp2
       go_ret;exact ⟨er_,pB_ HB.out⟩
      ·replace c9:=Bool.eq_false_iff.mpr c9
       subst c9;rw [if_neg (show ¬ (false=true) by decide)] at H;have H':=D H;clear H
       go_wp2
       go_roundg k1
       case measure=>have:=A.out;omega
       case rel=>exact ⟨(wrap64 (a+1)),Z69,H',⟨by have:=A.out;omega⟩,⟨pB_ HB.out⟩⟩
     ·rw [if_neg c5] at H
      exact absurd H (by simp)
    ·rw [if_neg c4] at H
     exact absurd H (by simp)
   ·rw [if_neg c3] at H
    have ac:decide (a < (l0.length:Int))=false:=decide_eq_false c3;clear c3;obtain rfl:=Option.some.inj H
    go_wp2
    go_ret;exact ⟨er_,pB_ HB.out⟩
def slices_ContainsFunc_impl_Deal_impl_Deal.f (k:Nat) (l0:List (S44)) (a:(Int→Int→Int→Int→Int→(List Int)→Option (Bool))):Option (Bool):=(slices_IndexFunc_impl_Deal_impl_Deal.f k l0 a).bind fun b=>(some (decide (b ≥ 0)))
theorem slices_ContainsFunc_impl_Deal_impl_Deal.calls (k : Nat) (q : Option Addr) (s : Nat) (l0 : List (S44)) (c : (Int → Int → Int → Int → Int → (List Int) → Option (Bool))) (b : Nat) (d : Array Value) (r : Bool) (w : World) (u : Kd.C k44 w q l0.length l0) (v : l0.length ≤ s) (hq1 : Aside0 (∃ F_, Try.prog.funcs[b]? = some F_ ∧ (F_.name == "runtime.NumGoroutine") = false ∧ F_.body.isSome = true)) (HP1_43 : Aside0 (∀ (g i j l m : Int) (n : Option Addr) (o : Nat) (a : List Int) (p : Bool) (W_ : World), Below w.heap.size w W_ → Kd.C (Kd.int .i64) W_ n a.length a → a.length ≤ o → c g i j l m a = some p → Calls Try.prog b (#[.agg #[I L g, I L i, I L j, I L l, I L m, Y n a.length o]] ++ d) W_ (fun e w' => e = .returned (.bool p) ∧ Below W_.heap.size W_ w'))) (h : slices_ContainsFunc_impl_Deal_impl_Deal.f k l0 c = some r) :
  Calls Try.prog 43 #[Y q l0.length s,.func (.func b) #[] d] w fun e w'=>e=.returned (.bool r)∧Below w.heap.size w w':=by
 have z:=D u
 have A:=D v
 clear u v
 have HB:=D (Below.refl w.heap.size w)
 have H:((slices_IndexFunc_impl_Deal_impl_Deal.f k l0 c).bind fun t=>(some (decide (t ≥ 0))))=some r:=h
 clear h
 obtain ⟨t,x,H⟩:=bs_.mp H
 (try dsimp only at H)
 have B:=D x
 clear x
 obtain rfl:=Option.some.inj H
 go_enter Try.func43,Try.ntmps43
 go_wp2_with (first|((with_reducible refine gate_callee (f:=66) rfl ?_);refine goesL_ (some 7) rfl rfl Try.func66 (by kernel_rfl) rfl #[Y q l0.length s,.func (.func b) #[] d] rfl Z20 ?_;(with_reducible refine (slices_IndexFunc_impl_Deal_impl_Deal.calls k _ _ l0 c b d t _ ?side1 ?side2 ?side3 ?side4 B.out).mono ?_);(case side1=>exact pC_ z.out);(case side2=>exact A.out);(case side3=>exact hq1);(case side4=>refine ⟨?_⟩;intro g i j l m n o a p W_ hW_ E G h_;exact HP1_43.out g i j l m n o a p W_ (below_step (pB_ HB.out) hW_) E G h_);rintro e J ⟨rfl,hb⟩;refine ⟨_,rfl,?_⟩;have y:=D (below_step (pB_ HB.out) hb);clear HB;have HB:=y;clear y;(try clear hb)))
 go_ret
 exact ⟨er_,pB_ HB.out⟩
def impl_within.f (a b c:Int):Option (Bool):=if a ≥ b then (some (decide (a≤c))) else (some false)
theorem impl_within.calls (a b c:Int) (r:Bool) (w:World) (h:impl_within.f a b c=some r) :
  Calls Try.prog 81 #[I L a,I L b,I L c] w fun e w'=>e=.returned (.bool r)∧Drawn0 w w':=by
 have H:(if a ≥ b then (some (decide (a≤c))) else (some false))=some r:=h
 clear h
 by_cases c4:a ≥ b
 ·rw [if_pos c4] at H
  have d:decide (b≤a)=true:=decide_eq_true c4;clear c4;obtain rfl:=Option.some.inj H;go_enter Try.func81,Try.ntmps81
  go_wp2
  go_ret;exact ⟨by first | rfl | (simp;done) | (simp [*];done),by repeat (first | exact Drawn0.refl _ | apply Drawn0.step)⟩
 ·rw [if_neg c4] at H
  have d:decide (b≤a)=false:=decide_eq_false c4;clear c4;obtain rfl:=Option.some.inj H;go_enter Try.func81,Try.ntmps81
  go_wp2
  go_ret;exact ⟨by first | rfl | (simp;done) | (simp [*];done),by repeat (first | exact Drawn0.refl _ | apply Drawn0.step)⟩
end Go.Proofs.Ytpkdkhhknmlpjaa.PFnTakenAdds
