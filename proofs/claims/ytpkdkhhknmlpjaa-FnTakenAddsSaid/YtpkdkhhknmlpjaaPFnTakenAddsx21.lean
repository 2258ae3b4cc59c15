-- by a program of this session's, over the kit's words
import Derived.Test.YtpkdkhhknmlpjaaPZFnTakenAdds
import Derived.Test.YtpkdkhhknmlpjaaPFnTakenAddsx0
import Derived.Test.YtpkdkhhknmlpjaaPFnTakenAddsx1
import Derived.Test.YtpkdkhhknmlpjaaPFnTakenAddsx2
import Derived.Test.YtpkdkhhknmlpjaaPFnTakenAddsx15
import Derived.Test.YtpkdkhhknmlpjaaPFnTakenAddsx16
import Derived.Test.YtpkdkhhknmlpjaaPFnTakenAddsx18
import Derived.Test.YtpkdkhhknmlpjaaPFnTakenAddsx19
import Derived.Test.YtpkdkhhknmlpjaaPFnTakenAddsx20
namespace Go.Proofs.Ytpkdkhhknmlpjaa.PFnTakenAdds
open Go.RowKit Go.Proofs.YtpkdkhhknmlpjaaW.PrintWords Go.Proofs.YtpkdkhhknmlpjaaW.PrintLast Go.Proofs.YtpkdkhhknmlpjaaW.PrintMore Go.Proofs.YtpkdkhhknmlpjaaV Go.Proofs.Ytpkdkhhknmlpjaa.ZFnTakenAdds
open Go.Value renaming int → I, slice → Y
open Go.IntKind renaming i64 → L
open Aside0 renaming mk → D
open Option renaming bind_eq_some_iff → bs_
attribute [local go_sem] max2_int min2_int max_two min_two max_three min_three max_four min_four
set_option linter.unusedVariables false
set_option linter.unusedSimpArgs false
set_option maxHeartbeats 8000000
set_option maxRecDepth 100000
attribute [local go_sem high] eqA29
mutual
def laws_FnTakenAdds.j0:Nat→List Int→List (S44)→Int→Int→Int→Bool→Option (Bool)
 | 0,_,_,_,_,_,_=>none
 | k+1,B,b,c,a,d,E=>if E=true then ((impl_Taken.f k b c a d).bind fun x=>(if (x.1 == 0 && (x.2.1 == 0 && (x.2.2 == 0)))=true then ((impl_Tops.f k b c a d).bind fun G=>(some (G == (-1)))) else (some false))) else ((laws_pick.f k B 6 (wrap64 ((wrap64 (d - a))+1))).bind fun w=>((impl_Taken.f k b c a d).bind fun e=>((impl_Taken.f k b c a (wrap64 (a+w))).bind fun m=>((impl_Taken.f k b c (wrap64 (a+w)) d).bind fun n=>((impl_Tops.f k b c a d).bind fun A=>((impl_Mains.f k b c a d).bind fun y=>((spec_Taken.f k b c a d).bind fun z=>(if (!(e.1 == z.1) || (!(e.2.1 == z.2.1) || (!(e.2.2 == z.2.2))))=true then (laws_FnTakenAdds.j1 k b c a d (wrap64 (a+w)) A y true e.1 e.2.1 e.2.2 m.1 m.2.1 m.2.2 n.1 n.2.1 n.2.2) else ((spec_Mains.f k b c a d).bind fun J=>(laws_FnTakenAdds.j1 k b c a d (wrap64 (a+w)) A y ((y.length:Int) != (J.length:Int)) e.1 e.2.1 e.2.2 m.1 m.2.1 m.2.2 n.1 n.2.1 n.2.2))))))))))
def laws_FnTakenAdds.j1:Nat→List (S44)→Int→Int→Int→Int→Int→List Int→Bool→Int→Int→Int→Int→Int→Int→Int→Int→Int→Option (Bool)
 | 0,_,_,_,_,_,_,_,_,_,_,_,_,_,_,_,_,_=>none
 | k+1,b,c,a,d,o,h,p,K,i,j,l,q,r,s,t,u,v=>if K=true then (some false) else (laws_FnTakenAdds.l0 k b c a d o h p 0 i j l q r s t u v)
def laws_FnTakenAdds.l0:Nat→List (S44)→Int→Int→Int→Int→Int→List Int→Int→Int→Int→Int→Int→Int→Int→Int→Int→Int→Option (Bool)
 | 0,_,_,_,_,_,_,_,_,_,_,_,_,_,_,_,_,_=>none
 | k+1,b,c,a,d,o,h,p,g,i,j,l,q,r,s,t,u,v=>if g < 3 then ((laws_vec.f q r s g).bind fun M=>((laws_vec.f t u v g).bind fun O=>((laws_vec.f i j l g).bind fun P=>(if (wrap64 (M+O))=P then ((laws_vec.f i j l g).bind fun T=>(if T > h then (some false) else ((laws_in.f k p g).bind fun U=>(if U=true then ((laws_vec.f i j l g).bind fun W=>(if W=h then (laws_FnTakenAdds.l0 k b c a d o h p (wrap64 (g+1)) i j l q r s t u v) else (some false))) else (laws_FnTakenAdds.l0 k b c a d o h p (wrap64 (g+1)) i j l q r s t u v))))) else (some false))))) else ((impl_Tops.f k b c a o).bind fun X=>((impl_Tops.f k b c o d).bind fun Z=>(some (h == (wrap64 (X+Z))))))
end
def laws_FnTakenAdds.f (k:Nat) (l0:List Int):Option (Bool):=(laws_big.f l0).bind fun b=>(if b=true then (some true) else ((spec_DrawTaken.f k l0).bind fun a=>((spec_DealsOk.f k a.1).bind fun c=>(if c=true then (if a.2.2.1 < 0 then (laws_FnTakenAdds.j0 k l0 a.1 a.2.1 a.2.2.1 a.2.2.2 true) else (if a.2.2.1 > a.2.2.2 then (laws_FnTakenAdds.j0 k l0 a.1 a.2.1 a.2.2.1 a.2.2.2 true) else (laws_FnTakenAdds.j0 k l0 a.1 a.2.1 a.2.2.1 a.2.2.2 (decide (a.2.2.2 > (a.1.length:Int)))))) else (laws_FnTakenAdds.j0 k l0 a.1 a.2.1 a.2.2.1 a.2.2.2 true)))))
def laws_FnTakenAdds.T12:Bool×List (List Nat×List Nat):=(true,[([],[]),([],[]),([],[]),([],[]),([],[]),([1,2,3,4],[1,2,3,4]),([0,5],[0,5]),([6,5],[6]),([7],[7]),([8,7],[7,8]),([7],[7]),([7],[7]),([7],[7]),([7],[7]),([10,11,12,13,7,7],[7,10,11,12,13]),([14,7],[7,14]),([9,15,7],[7,9,15]),([7,16],[7,16])])
def laws_FnTakenAdds.B12:List Nat:=[0,0,0,0,0,30,63,127,255,511,255,255,255,255,15615,31999,65535,131071]
theorem laws_FnTakenAdds.tab12:rtab .any (opsOf Try.f3 12)=laws_FnTakenAdds.T12:=by kernel_rfl
theorem laws_FnTakenAdds.bits12:waitsOk laws_FnTakenAdds.T12.2 laws_FnTakenAdds.B12=true:=by kernel_rfl
def laws_FnTakenAdds.T17:Bool×List (List Nat×List Nat):=(true,[([],[]),([],[]),([0,1],[0,1]),([],[]),([],[]),([3,4,2],[3,4]),([2,5],[2,5]),([],[]),([],[]),([7,8,5],[7,8]),([6,9],[6,9]),([10,9],[10]),([11],[11]),([11],[11]),([12,13,11,11],[11,12,13]),([11],[11]),([14,15,11],[11,14,15]),([11,16],[11,16]),([17,14],[17]),([18],[18]),([18],[18]),([19,20,18,18],[18,19,20]),([21,21,18],[18,21]),([22],[22]),([22],[22]),([23,24,22,22],[22,23,24]),([22],[22]),([25,26,22],[22,25,26]),([22,27,18],[18,22,27]),([18,28],[18,28])])
def laws_FnTakenAdds.B17:List Nat:=[0,0,3,0,0,31,63,0,0,447,1023,2047,4095,4095,16383,4095,65535,131071,262143,524287,524287,2097151,4194303,8388607,8388607,33554431,8388607,134217727,268435455,536870911]
theorem laws_FnTakenAdds.tab17:rtab .any (opsOf Try.f3 17)=laws_FnTakenAdds.T17:=by kernel_rfl
theorem laws_FnTakenAdds.bits17:waitsOk laws_FnTakenAdds.T17.2 laws_FnTakenAdds.B17=true:=by kernel_rfl
theorem laws_FnTakenAdds.calls (k:Nat) (O:Option Addr) (P:Nat) (l0:List Int) (r:Bool) (w:World) (al:Kd.C (Kd.int .u8) w O l0.length l0) (am:l0.length≤P) (hr_:Aside0 (r=true)) (h:laws_FnTakenAdds.f k l0=some r) :
  Calls Try.prog 3 #[Y O l0.length P] w fun e w'=>e=.returned (.bool r)∧Below w.heap.size w w':=by
 have hu29:=Try.underlying29
 have ad:=D al
 have ae:=D am
 clear al am
 have HB:=D (Below.refl w.heap.size w)
 have H:((laws_big.f l0).bind fun Jh=>(if Jh=true then (some true) else ((spec_DrawTaken.f k l0).bind fun a=>((spec_DealsOk.f k a.1).bind fun Ji=>(if Ji=true then (if a.2.2.1 < 0 then (laws_FnTakenAdds.j0 k l0 a.1 a.2.1 a.2.2.1 a.2.2.2 true) else (if a.2.2.1 > a.2.2.2 then (laws_FnTakenAdds.j0 k l0 a.1 a.2.1 a.2.2.1 a.2.2.2 true) else (laws_FnTakenAdds.j0 k l0 a.1 a.2.1 a.2.2.1 a.2.2.2 (decide (a.2.2.2 > (a.1.length:Int)))))) else (laws_FnTakenAdds.j0 k l0 a.1 a.2.1 a.2.2.1 a.2.2.2 true))))))=some r:=h
 clear h
 obtain ⟨Jh,an,H⟩:=bs_.mp H
 (try dsimp only at H)
 have A2:=D an
 clear an
 have ao:=D H
 clear H
 go_enter Try.func3,Try.ntmps3
 go_upto_if 15 with (first|((with_reducible refine gate_callee (f:=4) rfl ?_);refine goesL_ (some 15) rfl rfl Try.func4 (by kernel_rfl) rfl #[Y O l0.length P] rfl Z20 ?_;(with_reducible refine (laws_big.calls _ _ l0 Jh _ ?side1 ?side2 A2.out).mono ?_);(case side1=>exact pC_ ad.out);(case side2=>exact ae.out);rintro e w' ⟨rfl,⟨nd,rfl⟩⟩;refine ⟨_,rfl,?_⟩))
 have H:=ao.out
 clear ao
 by_cases c4:Jh=true
 ·subst c4
  rw [if_pos rfl] at H;obtain rfl:=Option.some.inj H
  go_wp2
  go_ret;exact ⟨er_,pB_ HB.out⟩
 ·replace c4:=Bool.eq_false_iff.mpr c4
  subst c4;rw [if_neg (show ¬ (false=true) by decide)] at H;obtain ⟨⟨Ua,Uc,Kb,Mc⟩,ap,H⟩:=bs_.mp H;(try dsimp only at H);have A5:=D ap;clear ap;have af:=D H;clear H
  go_upto_region 4 with (first|((with_reducible refine gate_callee (f:=5) rfl ?_);refine goesL_ (some 18) rfl rfl Try.func5 (by kernel_rfl) rfl #[Y O l0.length P] rfl Z20 ?_;(with_reducible refine (spec_DrawTaken.calls k _ _ l0 Ua Uc Kb Mc _ ?side1 ?side2 A5.out).mono ?_);(case side1=>exact pC_ (Kd.C_below ad.out HB.out));(case side2=>exact ae.out);rintro e w7 ⟨Ki,rfl,u,hb⟩;refine ⟨_,rfl,?_⟩;have n_:=an_ (Kd.N_lower (Kd.N_mono (ok':=fun k_=>True) u (fun k_ hk_=>trivial)) (below_size (pB_ HB.out)))<|D (below_step (pB_ HB.out) hb);clear HB;obtain ⟨Oc,HB⟩:=n_;(try clear hb);(try clear u)))
  (try simp only [Act.put,List.setIfInBounds_toArray,List.set_cons_zero,List.set_cons_succ])
  go_cut [40] (fun a0 wc=>∃ (kq:Nat) (Kh:Bool),a0=.bool Kh∧Aside0 (laws_FnTakenAdds.j0 kq l0 Ua Uc Kb Mc Kh=some r)∧Aside0 (kq≤k)∧Aside0 (Kd.N k44 44 wc w.heap.size (fun _=>True) Ki Ua)∧Aside0 (Below w.heap.size w wc))
  case first =>
   have H:=af.out;clear af;obtain ⟨Ji,aq,H⟩:=bs_.mp H;(try dsimp only at H);have W:=D aq;clear aq
   by_cases c9:Ji=true
   ·subst c9
    rw [if_pos rfl] at H
    by_cases c10:Kb < 0
    ·rw [if_pos c10] at H
     have A:decide (Kb < 0)=true:=decide_eq_true c10;clear c10;refine rw_ A ?_;have H':=D H;clear H;obtain ⟨Om,Um,a1⟩:=Kd.N_slice Oc.out;subst a1
     go_wp2_with (first|((with_reducible refine gate_callee (f:=6) rfl ?_);refine goesL_ (some 24) rfl rfl Try.func6 (by kernel_rfl) rfl #[Y Om Ua.length Um] rfl Z20 ?_;(with_reducible refine (spec_DealsOk.calls k _ _ Ua true _ ?side1 ?side2 W.out).mono ?_);(case side1=>exact pC_ ((Kd.N_reads' Oc.out).2.2));(case side2=>exact (Kd.N_reads' Oc.out).2.1);rintro e bx ⟨rfl,hb⟩;refine ⟨_,rfl,?_⟩;have n_:=an_ (Kd.N_below (pN_ Oc.out) hb)<|D (below_step (pB_ HB.out) hb);clear Oc HB;obtain ⟨Oc,HB⟩:=n_;(try clear hb)))
     go_meet
     case rel=>exact ⟨_,(true),Z69,H',⟨by first | omega | exact Nat.le_refl _⟩,⟨pN_ Oc.out⟩,⟨pB_ HB.out⟩⟩
    ·rw [if_neg c10] at H
     have A:decide (Kb < 0)=false:=decide_eq_false c10;clear c10;refine rw_ A ?_
     by_cases v:Kb > Mc
     ·rw [if_pos v] at H
      have X:decide (Mc < Kb)=true:=decide_eq_true v;clear v;have H':=D H;clear H;obtain ⟨Xm,Jn,a2⟩:=Kd.N_slice Oc.out;subst a2
      go_wp2_with (first|((with_reducible refine gate_callee (f:=6) rfl ?_);refine goesL_ (some 24) rfl rfl Try.func6 (by kernel_rfl) rfl #[Y Xm Ua.length Jn] rfl Z20 ?_;(with_reducible refine (spec_DealsOk.calls k _ _ Ua true _ ?side1 ?side2 W.out).mono ?_);(case side1=>exact pC_ ((Kd.N_reads' Oc.out).2.2));(case side2=>exact (Kd.N_reads' Oc.out).2.1);rintro e bA ⟨rfl,hb⟩;refine ⟨_,rfl,?_⟩;have n_:=an_ (Kd.N_below (pN_ Oc.out) hb)<|D (below_step (pB_ HB.out) hb);clear Oc HB;obtain ⟨Oc,HB⟩:=n_;(try clear hb)))
      go_meet
      case rel=>exact ⟨_,(true),Z69,H',⟨by first | omega | exact Nat.le_refl _⟩,⟨pN_ Oc.out⟩,⟨pB_ HB.out⟩⟩
     ·rw [if_neg v] at H
      have X:decide (Mc < Kb)=false:=decide_eq_false v;clear v;have H':=D H;clear H;obtain ⟨Kn,Mn,a3⟩:=Kd.N_slice Oc.out;subst a3
      go_wp2_with (first|((with_reducible refine gate_callee (f:=6) rfl ?_);refine goesL_ (some 24) rfl rfl Try.func6 (by kernel_rfl) rfl #[Y Kn Ua.length Mn] rfl Z20 ?_;(with_reducible refine (spec_DealsOk.calls k _ _ Ua true _ ?side1 ?side2 W.out).mono ?_);(case side1=>exact pC_ ((Kd.N_reads' Oc.out).2.2));(case side2=>exact (Kd.N_reads' Oc.out).2.1);rintro e bB ⟨rfl,hb⟩;refine ⟨_,rfl,?_⟩;have n_:=an_ (Kd.N_below (pN_ Oc.out) hb)<|D (below_step (pB_ HB.out) hb);clear Oc HB;obtain ⟨Oc,HB⟩:=n_;(try clear hb)))
      go_meet
      case rel=>exact ⟨_,(decide (Mc > (Ua.length:Int))),Z69,H',⟨by first | omega | exact Nat.le_refl _⟩,⟨pN_ Oc.out⟩,⟨pB_ HB.out⟩⟩
   ·replace c9:=Bool.eq_false_iff.mpr c9
    subst c9;rw [if_neg (show ¬ (false=true) by decide)] at H;have H':=D H;clear H;obtain ⟨On,Un,a4⟩:=Kd.N_slice Oc.out;subst a4
    go_wp2_with (first|((with_reducible refine gate_callee (f:=6) rfl ?_);refine goesL_ (some 24) rfl rfl Try.func6 (by kernel_rfl) rfl #[Y On Ua.length Un] rfl Z20 ?_;(with_reducible refine (spec_DealsOk.calls k _ _ Ua false _ ?side1 ?side2 W.out).mono ?_);(case side1=>exact pC_ ((Kd.N_reads' Oc.out).2.2));(case side2=>exact (Kd.N_reads' Oc.out).2.1);rintro e bC ⟨rfl,hb⟩;refine ⟨_,rfl,?_⟩;have n_:=an_ (Kd.N_below (pN_ Oc.out) hb)<|D (below_step (pB_ HB.out) hb);clear Oc HB;obtain ⟨Oc,HB⟩:=n_;(try clear hb)))
    go_meet
    case rel=>exact ⟨_,(true),Z69,H',⟨by first | omega | exact Nat.le_refl _⟩,⟨pN_ Oc.out⟩,⟨pB_ HB.out⟩⟩
  case rest =>
   clear af
   (try clear c1);(try clear Z);(try clear c3);(try clear c4);(try clear c5);(try clear c6);(try clear c9);(try clear c10);(try clear A);(try clear v);(try clear X)
   obtain ⟨kq,Kh,rfl,HA,B,Ka,HB⟩:=hcut
   cases kq with
   | zero=>exact absurd HA.out (by simp [laws_FnTakenAdds.j0])
   | succ kj5 =>
    have H:=HA.out;clear HA;simp only [laws_FnTakenAdds.j0] at H
    by_cases E:Kh=true
    ·subst E
     rw [if_pos rfl] at H;obtain ⟨⟨Kf,Mf,Of⟩,au,H⟩:=bs_.mp H;(try dsimp only at H);have a5:=D au;clear au
     by_cases j:(Kf == 0 && (Mf == 0 && (Of == 0)))=true
     ·rw [if_pos j] at H
      have ag:(Kf == 0 && (Mf == 0 && (Of == 0)))=true:=j;(try (have ah:decide (Kf=0 && (Mf == 0 && (Of == 0)))=true:=by simpa using j));(try (have ai:(Kf == 0 && (Mf == 0 && (Of == 0)))=true:=by simpa using j));clear j;obtain ⟨Xn,av,H⟩:=bs_.mp H;(try dsimp only at H);have a6:=D av;clear av;obtain rfl:=Option.some.inj H;obtain ⟨Jo,Ko,a7⟩:=Kd.N_slice Ka.out;subst a7
      go_wp2_with (first|((with_reducible refine gate_callee (f:=7) rfl ?_);refine goesL_ (some 45) rfl rfl Try.func7 (by kernel_rfl) rfl #[Y Jo Ua.length Ko,I L Uc,I L Kb,I L Mc] rfl Z20 ?_;(with_reducible refine (impl_Taken.calls kj5 _ _ Ua Uc Kb Mc Kf Mf Of _ ?side1 ?side2 a5.out).mono ?_);(case side1=>exact pC_ ((Kd.N_reads' Ka.out).2.2));(case side2=>exact (Kd.N_reads' Ka.out).2.1);rintro e bD ⟨rfl,hb⟩;refine ⟨_,rfl,?_⟩;have n_:=an_ (Kd.N_below (pN_ Ka.out) hb)<|D (below_step (pB_ HB.out) hb);clear Ka HB;obtain ⟨Ka,HB⟩:=n_;(try clear hb))|(go_at_call 8;(with_reducible refine (impl_Tops.calls kj5 _ _ Ua Uc Kb Mc Xn _ ?side1 ?side2 a6.out).mono ?_);(case side1=>exact pC_ ((Kd.N_reads' Ka.out).2.2));(case side2=>exact (Kd.N_reads' Ka.out).2.1);rintro e bE ⟨rfl,hb⟩;have n_:=an_ (Kd.N_below (pN_ Ka.out) hb)<|D (below_step (pB_ HB.out) hb);clear Ka HB;obtain ⟨Ka,HB⟩:=n_;(try clear hb)))
      go_ret;exact ⟨er_,pB_ HB.out⟩
     ·rw [if_neg j] at H
      have ag:(Kf == 0 && (Mf == 0 && (Of == 0)))=false:=by simpa using j
      (try (have ah:decide (Kf=0 && (Mf == 0 && (Of == 0)))=false:=by simpa using j));(try (have ai:(Kf == 0 && (Mf == 0 && (Of == 0)))=false:=by simpa using j));(try (have bF:¬ (Kf=0 && (Mf == 0 && (Of == 0))):=by simpa using j));clear j;exact absurd (Option.some.inj H) Z72
    ·replace E:=Bool.eq_false_iff.mpr E
     subst E;rw [if_neg (show ¬ (false=true) by decide)] at H;obtain ⟨Xe,aw,H⟩:=bs_.mp H;(try dsimp only at H);have a8:=D aw;clear aw;obtain ⟨⟨Ub,Xb,Jc⟩,ax,H⟩:=bs_.mp H;(try dsimp only at H);have a9:=D ax;clear ax;obtain ⟨⟨Jd,Md,Ud⟩,ay,H⟩:=bs_.mp H;(try dsimp only at H);have ba:=D ay;clear ay;obtain ⟨⟨Od,Xd,Ke⟩,az,H⟩:=bs_.mp H;(try dsimp only at H);have bb:=D az;clear az;obtain ⟨Jf,aA,H⟩:=bs_.mp H;(try dsimp only at H);have bc:=D aA;clear aA;obtain ⟨Oe,aB,H⟩:=bs_.mp H;(try dsimp only at H);have bd:=D aB;clear aB;have aj:=D H;clear H
     go_upto_region 12 with (first|((with_reducible refine gate_callee (f:=9) rfl ?_);refine goesL_ (some 62) rfl rfl Try.func9 (by kernel_rfl) rfl #[Y O l0.length P,I L 6,I L (wrap64 ((wrap64 (Mc - Kb))+1))] rfl Z20 ?_;(with_reducible refine (laws_pick.calls kj5 _ _ l0 6 (wrap64 ((wrap64 (Mc - Kb))+1)) Xe _ ?side1 ?side2 a8.out).mono ?_);(case side1=>exact pC_ (Kd.C_below ad.out HB.out));(case side2=>exact ae.out);rintro e w' ⟨rfl,⟨nd,rfl⟩⟩;refine ⟨_,rfl,?_⟩;(try (rw [drewN_self wc];generalize hq_:World.drewN wc _=wc;have d:Aside0 (Kd.N k44 44 wc w.heap.size (fun _=>True) Ki Ua):=⟨by rw [← hq_];exact (pN_ Ka.out)⟩;have i:Aside0 (Below w.heap.size w wc):=⟨by rw [← hq_];exact (pB_ HB.out)⟩;clear Ka HB hq_;have Ka:=d;have HB:=i;clear d i));obtain ⟨Me,Je,be⟩:=Kd.N_slice Ka.out;subst be)|((with_reducible refine gate_callee (f:=7) rfl ?_);refine goesL_ (some 68) rfl rfl Try.func7 (by kernel_rfl) rfl #[Y Me Ua.length Je,I L Uc,I L Kb,I L Mc] rfl Z20 ?_;(with_reducible refine (impl_Taken.calls kj5 _ _ Ua Uc Kb Mc Ub Xb Jc _ ?side1 ?side2 a9.out).mono ?_);(case side1=>exact pC_ ((Kd.N_reads' Ka.out).2.2));(case side2=>exact (Kd.N_reads' Ka.out).2.1);rintro e bG ⟨rfl,hb⟩;refine ⟨_,rfl,?_⟩;have n_:=an_ (Kd.N_below (pN_ Ka.out) hb)<|D (below_step (pB_ HB.out) hb);clear Ka HB;obtain ⟨Ka,HB⟩:=n_;(try clear hb))|((with_reducible refine gate_dst (N:=8) rfl ?_);(try (refine gate_guard (by rfl) ?_;dsimp only));refine bx_ (N:=8) (cs:=#[I L 0,I L 0,I L 0]) (t:=29) ?_;intro Jb hg bH hbox hb;have n_:=an_ (Kd.N_below (Kd.N_elderB (pN_ Ka.out) Jb (Nat.le_of_eq hg.symm)) hb)<|an_ (below_step (pB_ HB.out) hb)<|an_ (hbox)<|an_ (bg_ hg (pB_ HB.out):w.heap.size≤Jb)<|D (bg_ hg (pB_ HB.out):w.heap.size≤Jb);clear Ka HB;obtain ⟨Ka,HB,Ja,Mq,Oq⟩:=n_;clear hb hbox hg;have Mi:=cells3 Ja.out)|((with_reducible refine gate_callee (f:=7) rfl ?_);refine goesL_ (some 73) rfl rfl Try.func7 (by kernel_rfl) rfl #[Y Me Ua.length Je,I L Uc,I L Kb,I L (wrap64 (Kb+Xe))] rfl Z20 ?_;(with_reducible refine (impl_Taken.calls kj5 _ _ Ua Uc Kb (wrap64 (Kb+Xe)) Jd Md Ud _ ?side1 ?side2 ba.out).mono ?_);(case side1=>refine (Kd.N_reads' (e:=44) (base:=w.heap.size) (ok:=fun k_=>(True∧k_≠Jb)) (n:=Ua.length) (c:=Je) ?_).2.2;exact (pN_ (Kd.N_mono (Kd.N_far (p:=⟨Jb,2,none⟩) (Kd.N_far (p:=⟨Jb,1,none⟩) (Kd.N_far (p:=⟨Jb,0,none⟩) (Kd.N_mono Ka.out (fun k_ hk=>(⟨hk,hk.2⟩:_∧k_≠Jb))) (fun _ hk=>hk.2) (I L Ub)) (fun _ hk=>hk.2) (I L Xb)) (fun _ hk=>hk.2) (I L Jc)) (fun _ h_=>h_.1))));(case side2=>exact (Kd.N_reads' Ka.out).2.1);rintro e bI ⟨rfl,hb⟩;refine ⟨_,rfl,?_⟩;have n_:=an_ (Kd.N_below (pN_ (Kd.N_mono (Kd.N_far (p:=⟨Jb,2,none⟩) (Kd.N_far (p:=⟨Jb,1,none⟩) (Kd.N_far (p:=⟨Jb,0,none⟩) (Kd.N_mono Ka.out (fun k_ hk=>(⟨hk,hk.2⟩:_∧k_≠Jb))) (fun _ hk=>hk.2) (I L Ub)) (fun _ hk=>hk.2) (I L Xb)) (fun _ hk=>hk.2) (I L Jc)) (fun _ h_=>h_.1))) hb)<|an_ (blk_below (g:=Jb) (o:=.cells #[I L Ub,I L Xb,I L Jc] 29 (0,0)) (by exact pP_ Ja.out) hb)<|D (below_step (pB_ HB.out) hb);clear Ka Ja HB;obtain ⟨Ka,Ja,HB⟩:=n_;(try clear hb);(try clear hk))|((with_reducible refine gate_dst (N:=9) rfl ?_);(try (refine gate_guard (by rfl) ?_;dsimp only));refine bx_ (N:=9) (cs:=#[I L 0,I L 0,I L 0]) (t:=29) ?_;intro Mb hg bJ hbox hb;have n_:=an_ (Kd.N_below (Kd.N_elderB (pN_ Ka.out) Mb (Nat.le_of_eq hg.symm)) hb)<|an_ (blk_below (pk_ Ja.out) hb)<|an_ (below_step (pB_ HB.out) hb)<|an_ (hbox)<|an_ (bg_ hg (pB_ HB.out):w.heap.size≤Mb)<|an_ (bg_ hg (pB_ HB.out):w.heap.size≤Mb)<|an_ (nl_ hg (pk_ Ja.out):Jb≠Mb)<|D (by rw [hg];exact Nat.ne_of_gt (blk_lt (pk_ Ja.out)):Mb≠Jb);clear Ka Ja HB;obtain ⟨Ka,Ja,HB,Ma,Uq,Xq,Mh,Mo⟩:=n_;clear hb hbox hg;(try have:=Mo.out);(try have:=Mh.out);have Mj:=cells3 Ma.out)|((with_reducible refine gate_callee (f:=7) rfl ?_);refine goesL_ (some 78) rfl rfl Try.func7 (by kernel_rfl) rfl #[Y Me Ua.length Je,I L Uc,I L (wrap64 (Kb+Xe)),I L Mc] rfl Z20 ?_;(with_reducible refine (impl_Taken.calls kj5 _ _ Ua Uc (wrap64 (Kb+Xe)) Mc Od Xd Ke _ ?side1 ?side2 bb.out).mono ?_);(case side1=>refine (Kd.N_reads' (e:=44) (base:=w.heap.size) (ok:=fun k_=>((True∧k_≠Jb)∧k_≠Mb)) (n:=Ua.length) (c:=Je) ?_).2.2;exact (pN_ (Kd.N_mono (Kd.N_far (p:=⟨Mb,2,none⟩) (Kd.N_far (p:=⟨Mb,1,none⟩) (Kd.N_far (p:=⟨Mb,0,none⟩) (Kd.N_mono Ka.out (fun k_ hk=>(⟨hk,hk.2⟩:_∧k_≠Mb))) (fun _ hk=>hk.2) (I L Jd)) (fun _ hk=>hk.2) (I L Md)) (fun _ hk=>hk.2) (I L Ud)) (fun _ h_=>h_.1))));(case side2=>exact (Kd.N_reads' Ka.out).2.1);rintro e bK ⟨rfl,hb⟩;refine ⟨_,rfl,?_⟩;have n_:=an_ (Kd.N_below (pN_ (Kd.N_mono (Kd.N_far (p:=⟨Mb,2,none⟩) (Kd.N_far (p:=⟨Mb,1,none⟩) (Kd.N_far (p:=⟨Mb,0,none⟩) (Kd.N_mono Ka.out (fun k_ hk=>(⟨hk,hk.2⟩:_∧k_≠Mb))) (fun _ hk=>hk.2) (I L Jd)) (fun _ hk=>hk.2) (I L Md)) (fun _ hk=>hk.2) (I L Ud)) (fun _ h_=>h_.1))) hb)<|an_ (blk_below (g:=Jb) (o:=.cells #[I L Ub,I L Xb,I L Jc] 29 (0,0)) (by exact pP_ Ja.out) hb)<|an_ (blk_below (g:=Mb) (o:=.cells #[I L Jd,I L Md,I L Ud] 29 (0,0)) (by exact pP_ Ma.out) hb)<|D (below_step (pB_ HB.out) hb);clear Ka Ja Ma HB;obtain ⟨Ka,Ja,Ma,HB⟩:=n_;(try clear hb);(try clear hk))|((with_reducible refine gate_dst (N:=10) rfl ?_);(try (refine gate_guard (by rfl) ?_;dsimp only));refine bx_ (N:=10) (cs:=#[I L 0,I L 0,I L 0]) (t:=29) ?_;intro Ob hg bL hbox hb;have n_:=an_ (Kd.N_below (Kd.N_elderB (pN_ Ka.out) Ob (Nat.le_of_eq hg.symm)) hb)<|an_ (blk_below (pk_ Ja.out) hb)<|an_ (blk_below (pk_ Ma.out) hb)<|an_ (below_step (pB_ HB.out) hb)<|an_ (hbox)<|an_ (bg_ hg (pB_ HB.out):w.heap.size≤Ob)<|an_ (bg_ hg (pB_ HB.out):w.heap.size≤Ob)<|an_ (nl_ hg (pk_ Ja.out):Jb≠Ob)<|an_ (ng_ hg (pk_ Ja.out):Ob≠Jb)<|an_ (nl_ hg (pk_ Ma.out):Mb≠Ob)<|D (by rw [hg];exact Nat.ne_of_gt (blk_lt (pk_ Ma.out)):Ob≠Mb);clear Ka Ja Ma HB;obtain ⟨Ka,Ja,Ma,HB,Oa,Jr,Kr,Oh,Oo,Uh,Uo⟩:=n_;clear hb hbox hg;(try have:=Oo.out);(try have:=Oh.out);(try have:=Uo.out);(try have:=Uh.out);have Mk:=cells3 Oa.out)|((with_reducible refine gate_callee (f:=8) rfl ?_);refine goesL_ (some 83) rfl rfl Try.func8 (by kernel_rfl) rfl #[Y Me Ua.length Je,I L Uc,I L Kb,I L Mc] rfl Z20 ?_;(with_reducible refine (impl_Tops.calls kj5 _ _ Ua Uc Kb Mc Jf _ ?side1 ?side2 bc.out).mono ?_);(case side1=>refine (Kd.N_reads' (e:=44) (base:=w.heap.size) (ok:=fun k_=>(((True∧k_≠Jb)∧k_≠Mb)∧k_≠Ob)) (n:=Ua.length) (c:=Je) ?_).2.2;exact (pN_ (Kd.N_mono (Kd.N_far (p:=⟨Ob,2,none⟩) (Kd.N_far (p:=⟨Ob,1,none⟩) (Kd.N_far (p:=⟨Ob,0,none⟩) (Kd.N_mono Ka.out (fun k_ hk=>(⟨hk,hk.2⟩:_∧k_≠Ob))) (fun _ hk=>hk.2) (I L Od)) (fun _ hk=>hk.2) (I L Xd)) (fun _ hk=>hk.2) (I L Ke)) (fun _ h_=>h_.1))));(case side2=>exact (Kd.N_reads' Ka.out).2.1);rintro e bM ⟨rfl,hb⟩;refine ⟨_,rfl,?_⟩;have n_:=an_ (Kd.N_below (pN_ (Kd.N_mono (Kd.N_far (p:=⟨Ob,2,none⟩) (Kd.N_far (p:=⟨Ob,1,none⟩) (Kd.N_far (p:=⟨Ob,0,none⟩) (Kd.N_mono Ka.out (fun k_ hk=>(⟨hk,hk.2⟩:_∧k_≠Ob))) (fun _ hk=>hk.2) (I L Od)) (fun _ hk=>hk.2) (I L Xd)) (fun _ hk=>hk.2) (I L Ke)) (fun _ h_=>h_.1))) hb)<|an_ (blk_below (g:=Jb) (o:=.cells #[I L Ub,I L Xb,I L Jc] 29 (0,0)) (by exact pP_ Ja.out) hb)<|an_ (blk_below (g:=Mb) (o:=.cells #[I L Jd,I L Md,I L Ud] 29 (0,0)) (by exact pP_ Ma.out) hb)<|an_ (blk_below (g:=Ob) (o:=.cells #[I L Od,I L Xd,I L Ke] 29 (0,0)) (by exact pP_ Oa.out) hb)<|D (below_step (pB_ HB.out) hb);clear Ka Ja Ma Oa HB;obtain ⟨Ka,Ja,Ma,Oa,HB⟩:=n_;(try clear hb);(try clear hk))|((with_reducible refine gate_callee (f:=10) rfl ?_);refine goesL_ (some 88) rfl rfl Try.func10 (by kernel_rfl) rfl #[Y Me Ua.length Je,I L Uc,I L Kb,I L Mc] rfl Z20 ?_;(with_reducible refine (impl_Mains.calls kj5 _ _ Ua Uc Kb Mc Oe _ ?side1 ?side2 bd.out).mono ?_);(case side1=>exact pC_ ((Kd.N_reads' Ka.out).2.2));(case side2=>exact (Kd.N_reads' Ka.out).2.1);rintro e b ⟨Ue,rfl,u,hb⟩;refine ⟨_,rfl,?_⟩;have n_:=an_ (Kd.N_elder' (pN_ Ka.out) (Kd.R_base u) hb)<|an_ (Kd.R_lower u (below_size (pB_ HB.out)))<|an_ (blk_below (pk_ Ja.out) hb)<|an_ (blk_below (pk_ Ma.out) hb)<|an_ (blk_below (pk_ Oa.out) hb)<|D (below_step (pB_ HB.out) hb);clear Ka Ja Ma Oa HB;obtain ⟨Ka,Xc,Ja,Ma,Oa,HB⟩:=n_;(try clear hb);(try clear u)))
     (try simp only [Act.put,List.setIfInBounds_toArray,List.set_cons_zero,List.set_cons_succ])
     go_cut [106] (fun Xo wc=>∃ (kq:Nat) (Xh:Bool),Xo=.bool Xh∧Aside0 (laws_FnTakenAdds.j1 kq Ua Uc Kb Mc (wrap64 (Kb+Xe)) Jf Oe Xh Ub Xb Jc Jd Md Ud Od Xd Ke=some r)∧Aside0 (kq≤kj5)∧Aside0 (Kd.N k44 44 wc w.heap.size (fun k_=>some k_≠(Ue:Value).ownBlock∧k_≠Jb∧k_≠Mb∧k_≠Ob) (Y Me Ua.length Je) Ua)∧Aside0 (Kd.R (Kd.int .i64) 3 wc w.heap.size (fun _=>True) Ue Oe)∧Aside0 (wc.heap[Jb]?=some (.cells #[I L Ub,I L Xb,I L Jc] 29 (0,0)))∧Aside0 (wc.heap[Mb]?=some (.cells #[I L Jd,I L Md,I L Ud] 29 (0,0)))∧Aside0 (wc.heap[Ob]?=some (.cells #[I L Od,I L Xd,I L Ke] 29 (0,0)))∧Aside0 (Below w.heap.size w wc))
     case first =>
      have H:=aj.out;clear aj;obtain ⟨⟨Mg,Og,Ug⟩,aC,H⟩:=bs_.mp H;(try dsimp only at H);have aD:=D aC;clear aC
      by_cases x:(!(Ub == Mg) || (!(Xb == Og) || (!(Jc == Ug))))=true
      ·rw [if_pos x] at H
       have T:(!(Ub == Mg) || (!(Xb == Og) || (!(Jc == Ug))))=true:=x;clear x;refine rw_ T ?_;have H':=D H;clear H
       try go_wp2
       (try (rw [drewN_self b];generalize hq_:World.drewN b _=b;have d:Aside0 (Kd.R (Kd.int .i64) 3 b w.heap.size (fun _=>True) Ue Oe):=⟨by rw [← hq_];exact (pR_ Xc.out)⟩;have i:Aside0 (Kd.N k44 44 b w.heap.size (fun k_=>some k_≠(Ue:Value).ownBlock∧k_≠Jb∧k_≠Mb∧k_≠Ob) (Y Me Ua.length Je) Ua):=⟨by rw [← hq_];exact (pN_ (Kd.N_mono Ka.out (fun _ hk=>⟨hk.2,⟨hk.1.1.1.2,⟨hk.1.1.2,hk.1.2⟩⟩⟩)))⟩;have l:Aside0 (b.heap[Jb]?=some (.cells #[I L Ub,I L Xb,I L Jc] 29 (0,0))):=⟨by rw [← hq_];exact (pk_ Ja.out)⟩;have m:Aside0 (b.heap[Mb]?=some (.cells #[I L Jd,I L Md,I L Ud] 29 (0,0))):=⟨by rw [← hq_];exact (pk_ Ma.out)⟩;have q:Aside0 (b.heap[Ob]?=some (.cells #[I L Od,I L Xd,I L Ke] 29 (0,0))):=⟨by rw [← hq_];exact (pk_ Oa.out)⟩;have s:Aside0 (Below w.heap.size w b):=⟨by rw [← hq_];exact (pB_ HB.out)⟩;clear Xc Ka Ja Ma Oa HB hq_;have Xc:=d;have Ka:=i;have Ja:=l;have Ma:=m;have Oa:=q;have HB:=s;clear d i l m q s))
       have n_:=an_ (Kd.N_drew Ka.out)<|an_ (Kd.R_drew Xc.out)<|an_ (blk_drew Ja.out)<|an_ (blk_drew Ma.out)<|an_ (blk_drew Oa.out)<|D (below_drew1 HB.out)
       clear Ka Xc Ja Ma Oa HB;obtain ⟨Ka,Xc,Ja,Ma,Oa,HB⟩:=n_;refine start_ (n:=18) (S:=fun w'=>w'.cell? ⟨Jb,0,none⟩=some (I L Ub)∧w'.cell? ⟨Jb,1,none⟩=some (I L Xb)∧w'.cell? ⟨Jb,2,none⟩=some (I L Jc)) (ds:=[]) (bz 18 0) (by kernel_rfl) rfl (by kernel_rfl) (be3_ Ja.out) (fun hHeld=>?_);refine with_tabW laws_FnTakenAdds.tab12 laws_FnTakenAdds.bits12 (fun HT_ HW_=>?_);generalize b.drew=bN at Ka Xc Ja Ma Oa HB hHeld ⊢;refine pb_ 1 ?_;refine pb_ 2 ?_;refine pb_ 3 ?_;refine pb_ 4 ?_;refine tb_ 0 rfl rfl hHeld Z67 ?_;refine oa_ 5 94 18 63 HT_ (fun K hK=>?_);refine goes_ Try.func11 (by kernel_rfl) rfl #[Y Me Ua.length Je,I L Uc,I L Kb,I L Mc] (by rfl) rfl rfl Z20 ?_;with_reducible refine (spec_Taken.calls kj5 _ _ Ua Uc Kb Mc Mg Og Ug _ ?side1 ?side2 aD.out).mono ?_
       (case side1=>exact pC_ ((Kd.N_reads' Ka.out).2.2));(case side2=>exact (Kd.N_reads' Ka.out).2.1);rintro e bO ⟨rfl,hb⟩;refine ⟨_,rfl,?_⟩
       have n_:=an_ (Kd.N_below (pN_ Ka.out) hb)<|an_ (Kd.R_below (pR_ Xc.out) hb)<|an_ (blk_below (pk_ Ja.out) hb)<|an_ (blk_below (pk_ Ma.out) hb)<|an_ (blk_below (pk_ Oa.out) hb)<|D (below_step (pB_ HB.out) hb)
       clear Ka Xc Ja Ma Oa HB;obtain ⟨Ka,Xc,Ja,Ma,Oa,HB⟩:=n_;refine hK.out _ _ (be3_ Ja.out) (fun hHeld=>?_);clear hK K;refine nx_ (N:=some 94) ?_;refine pb_ 6 ?_;refine pb_ 7 ?_;refine ob_ 8 ?_;refine ob_ 9 ?_;refine ob_ 10 ?_;refine ob_ 11 ?_;refine ob_ 12 ?_;refine ob_ 13 ?_;refine ob_ 14 ?_;refine ob_ 15 ?_;refine ob_ 16 ?_;refine pb_ 17 ?_;refine done_ (done_of HT_.out (by kernel_rfl)) ?_
       try go_wp2
       go_meet
       case rel=>exact ⟨_,(true),Z69,H',⟨by have:=B.out;first|omega|exact Nat.le_refl _⟩,⟨pN_ (Kd.N_mono Ka.out (fun _ hk=>⟨hk.2,⟨hk.1.1.1.2,⟨hk.1.1.2,hk.1.2⟩⟩⟩))⟩,⟨pR_ Xc.out⟩,⟨pk_ Ja.out⟩,⟨pk_ Ma.out⟩,⟨pk_ Oa.out⟩,⟨pB_ HB.out⟩⟩
      ·rw [if_neg x] at H
       have T:(!(Ub == Mg) || (!(Xb == Og) || (!(Jc == Ug))))=false:=by simpa using x
       clear x;refine rw_ T ?_;obtain ⟨Mm,aE,H⟩:=bs_.mp H;(try dsimp only at H);have bf:=D aE;clear aE;have H':=D H;clear H
       try go_wp2
       (try (rw [drewN_self b];generalize hq_:World.drewN b _=b;have d:Aside0 (Kd.R (Kd.int .i64) 3 b w.heap.size (fun _=>True) Ue Oe):=⟨by rw [← hq_];exact (pR_ Xc.out)⟩;have i:Aside0 (Kd.N k44 44 b w.heap.size (fun k_=>some k_≠(Ue:Value).ownBlock∧k_≠Jb∧k_≠Mb∧k_≠Ob) (Y Me Ua.length Je) Ua):=⟨by rw [← hq_];exact (pN_ (Kd.N_mono Ka.out (fun _ hk=>⟨hk.2,⟨hk.1.1.1.2,⟨hk.1.1.2,hk.1.2⟩⟩⟩)))⟩;have l:Aside0 (b.heap[Jb]?=some (.cells #[I L Ub,I L Xb,I L Jc] 29 (0,0))):=⟨by rw [← hq_];exact (pk_ Ja.out)⟩;have m:Aside0 (b.heap[Mb]?=some (.cells #[I L Jd,I L Md,I L Ud] 29 (0,0))):=⟨by rw [← hq_];exact (pk_ Ma.out)⟩;have q:Aside0 (b.heap[Ob]?=some (.cells #[I L Od,I L Xd,I L Ke] 29 (0,0))):=⟨by rw [← hq_];exact (pk_ Oa.out)⟩;have s:Aside0 (Below w.heap.size w b):=⟨by rw [← hq_];exact (pB_ HB.out)⟩;clear Xc Ka Ja Ma Oa HB hq_;have Xc:=d;have Ka:=i;have Ja:=l;have Ma:=m;have Oa:=q;have HB:=s;clear d i l m q s))
       have n_:=an_ (Kd.N_drew Ka.out)<|an_ (Kd.R_drew Xc.out)<|an_ (blk_drew Ja.out)<|an_ (blk_drew Ma.out)<|an_ (blk_drew Oa.out)<|D (below_drew1 HB.out)
       clear Ka Xc Ja Ma Oa HB;obtain ⟨Ka,Xc,Ja,Ma,Oa,HB⟩:=n_;refine start_ (n:=18) (S:=fun w'=>w'.cell? ⟨Jb,0,none⟩=some (I L Ub)∧w'.cell? ⟨Jb,1,none⟩=some (I L Xb)∧w'.cell? ⟨Jb,2,none⟩=some (I L Jc)) (ds:=[]) (bz 18 0) (by kernel_rfl) rfl (by kernel_rfl) (be3_ Ja.out) (fun hHeld=>?_);refine with_tabW laws_FnTakenAdds.tab12 laws_FnTakenAdds.bits12 (fun HT_ HW_=>?_);generalize b.drew=bP at Ka Xc Ja Ma Oa HB hHeld ⊢;refine pb_ 1 ?_;refine pb_ 2 ?_;refine pb_ 3 ?_;refine pb_ 4 ?_;refine tb_ 0 rfl rfl hHeld Z67 ?_;refine oa_ 5 94 18 63 HT_ (fun K hK=>?_);refine goes_ Try.func11 (by kernel_rfl) rfl #[Y Me Ua.length Je,I L Uc,I L Kb,I L Mc] (by rfl) rfl rfl Z20 ?_;with_reducible refine (spec_Taken.calls kj5 _ _ Ua Uc Kb Mc Mg Og Ug _ ?side1 ?side2 aD.out).mono ?_
       (case side1=>exact pC_ ((Kd.N_reads' Ka.out).2.2));(case side2=>exact (Kd.N_reads' Ka.out).2.1);rintro e bQ ⟨rfl,hb⟩;refine ⟨_,rfl,?_⟩
       have n_:=an_ (Kd.N_below (pN_ Ka.out) hb)<|an_ (Kd.R_below (pR_ Xc.out) hb)<|an_ (blk_below (pk_ Ja.out) hb)<|an_ (blk_below (pk_ Ma.out) hb)<|an_ (blk_below (pk_ Oa.out) hb)<|D (below_step (pB_ HB.out) hb)
       clear Ka Xc Ja Ma Oa HB;obtain ⟨Ka,Xc,Ja,Ma,Oa,HB⟩:=n_;obtain ⟨Mr,Or,aF⟩:=Kd.R_slice Xc.out;(first|subst aF|obtain ⟨rfl,rfl⟩:=sl_inj aF);refine hK.out _ _ (be3_ Ja.out) (fun hHeld=>?_);clear hK K;refine nx_ (N:=some 94) ?_;refine pb_ 6 ?_;refine pb_ 7 ?_;refine pb_ 8 ?_;refine pb_ 9 ?_;refine pb_ 10 ?_;refine pb_ 11 ?_;refine pb_ 12 ?_;refine pb_ 13 ?_;refine oa_ 14 103 18 32767 HT_ (fun K hK=>?_);refine goes_ Try.func12 (by kernel_rfl) rfl #[Y Me Ua.length Je,I L Uc,I L Kb,I L Mc] (by rfl) rfl rfl Z20 ?_;with_reducible refine (spec_Mains.calls kj5 _ _ Ua Uc Kb Mc Mm _ ?side1 ?side2 bf.out).mono ?_
       (case side1=>exact pC_ ((Kd.N_reads' Ka.out).2.2));(case side2=>exact (Kd.N_reads' Ka.out).2.1);rintro e bR ⟨Ur,rfl,u,hb⟩;refine ⟨_,rfl,?_⟩
       have n_:=an_ (Kd.N_elder' (pN_ Ka.out) (Kd.R_base u) hb)<|an_ (Kd.R_elder' (pR_ Xc.out) (Kd.R_base u) hb)<|an_ (Kd.R_lower (nw_ u (pR_ Xc.out)) (below_size (pB_ HB.out)))<|an_ (blk_below (pk_ Ja.out) hb)<|an_ (blk_below (pk_ Ma.out) hb)<|an_ (blk_below (pk_ Oa.out) hb)<|D (below_step (pB_ HB.out) hb)
       clear Ka Xc Ja Ma Oa HB;obtain ⟨Ka,Xc,Jp,Ja,Ma,Oa,HB⟩:=n_;obtain ⟨Xr,Js,aG⟩:=Kd.R_slice Jp.out;(first|subst aG|obtain ⟨rfl,rfl⟩:=sl_inj aG);refine hK.out _ _ (be3_ Ja.out) (fun hHeld=>?_);clear hK K;refine nx_ (N:=some 103) ?_;refine pb_ 15 ?_;refine pb_ 16 ?_;refine pb_ 17 ?_;refine done_ (done_of HT_.out (by kernel_rfl)) ?_
       try go_wp2
       go_meet
       case rel=>exact ⟨_,(((Oe.length:Int) != (Mm.length:Int))),Z69,H',⟨by have:=B.out;first|omega|exact Nat.le_refl _⟩,⟨pN_ (Kd.N_mono Ka.out (fun _ hk=>⟨hk.1.2,⟨hk.1.1.1.1.2,⟨hk.1.1.1.2,hk.1.1.2⟩⟩⟩))⟩,⟨pR_ (Kd.R_mono Xc.out (fun _ hk=>trivial))⟩,⟨pk_ Ja.out⟩,⟨pk_ Ma.out⟩,⟨pk_ Oa.out⟩,⟨pB_ HB.out⟩⟩
     case rest =>
      clear aj
      (try clear c1);(try clear c2);(try clear Z);(try clear c3);(try clear c4);(try clear c5);(try clear c6);(try clear p6);(try clear c7);(try clear c8);(try clear c9);(try clear c10);(try clear A);(try clear bg);(try clear bh);(try clear v);(try clear X);(try clear E);(try clear j);(try clear ag);(try clear ah);(try clear ai);(try clear bi);(try clear bj);(try clear bk);(try clear x);(try clear T);(try clear Mi);(try clear Mj);(try clear Mk);(try clear Z)
      obtain ⟨kq,Xh,rfl,HA,aa,Ka,Xa,Ja,Ma,Oa,HB⟩:=hcut
      cases kq with
      | zero=>exact absurd HA.out (by simp [laws_FnTakenAdds.j1])
      | succ kj32 =>
       have H:=HA.out;clear HA;simp only [laws_FnTakenAdds.j1] at H
       by_cases U:Xh=true
       ·subst U
        rw [if_pos rfl] at H;exact absurd (Option.some.inj H) Z72
       ·replace U:=Bool.eq_false_iff.mpr U
        subst U;rw [if_neg (show ¬ (false=true) by decide)] at H;have H':=D H;clear H
        go_wp2
        go_loopg [13] kj32 (fun kq bl w'=>∃ (Kc:Int),bl=I L Kc∧Aside0 (laws_FnTakenAdds.l0 kq Ua Uc Kb Mc (wrap64 (Kb+Xe)) Jf Oe Kc Ub Xb Jc Jd Md Ud Od Xd Ke=some r)∧Aside0 (kq≤kj32)∧Aside0 (Kd.N k44 44 w' w.heap.size (fun k_=>some k_≠(Ue:Value).ownBlock) (Y Me Ua.length Je) Ua)∧Aside0 (Kd.R (Kd.int .i64) 3 w' w.heap.size (fun _=>True) Ue Oe)∧Aside0 (w'.heap[Jb]?=some (.cells #[I L Ub,I L Xb,I L Jc] 29 (0,0)))∧Aside0 (w'.heap[Mb]?=some (.cells #[I L Jd,I L Md,I L Ud] 29 (0,0)))∧Aside0 (w'.heap[Ob]?=some (.cells #[I L Od,I L Xd,I L Ke] 29 (0,0)))∧Aside0 (Below w.heap.size w w'))
        case atStart=>exact ⟨(0),Z69,H',⟨Nat.le_refl _⟩,⟨pN_ (Kd.N_mono Ka.out (fun _ hk=>hk.1))⟩,⟨pR_ Xa.out⟩,⟨pk_ Ja.out⟩,⟨pk_ Ma.out⟩,⟨pk_ Oa.out⟩,⟨pB_ HB.out⟩⟩
        case round =>
         clear H'
         (try clear c1);(try clear c2);(try clear Z);(try clear c3);(try clear c4);(try clear c5);(try clear c6);(try clear p6);(try clear c7);(try clear c8);(try clear c9);(try clear c10);(try clear A);(try clear bg);(try clear bh);(try clear v);(try clear X);(try clear E);(try clear j);(try clear ag);(try clear ah);(try clear ai);(try clear bi);(try clear bj);(try clear bk);(try clear x);(try clear T);(try clear U);(try clear Mi);(try clear Mj);(try clear Mk);(try clear Z);(try clear p6)
         obtain ⟨Kc,rfl,HA,ab,Ka,Xa,Ja,Ma,Oa,HB⟩:=hrel
         cases gk with
         | zero=>exact absurd HA.out (by simp [laws_FnTakenAdds.l0])
         | succ G =>
          have H:=HA.out;clear HA;simp only [laws_FnTakenAdds.l0] at H
          by_cases J:Kc < 3
          ·rw [if_pos J] at H
           have bm:decide (Kc < 3)=true:=decide_eq_true J;clear J;obtain ⟨Uf,aI,H⟩:=bs_.mp H;(try dsimp only at H);have aJ:=D aI;clear aI;obtain ⟨Xf,aK,H⟩:=bs_.mp H;(try dsimp only at H);have aL:=D aK;clear aK;obtain ⟨Jg,aM,H⟩:=bs_.mp H;(try dsimp only at H);have aN:=D aM;clear aM
           by_cases y:(wrap64 (Uf+Xf))=Jg
           ·rw [if_pos y] at H
            have bn:((wrap64 (Uf+Xf)) == Jg)=true:=beq_iff_eq.mpr y;have bo:((wrap64 (Uf+Xf)) != Jg)=false:=bne_eq_false_iff_eq.mpr y;clear y;obtain ⟨Xg,aO,H⟩:=bs_.mp H;(try dsimp only at H);have aP:=D aO;clear aO
            by_cases M:Xg > Jf
            ·rw [if_pos M] at H
             have bp:decide (Jf < Xg)=true:=decide_eq_true M;clear M;exact absurd (Option.some.inj H) Z72
            ·rw [if_neg M] at H
             have bp:decide (Jf < Xg)=false:=decide_eq_false M;clear M;obtain ⟨Kp,aQ,H⟩:=bs_.mp H;(try dsimp only at H);have aR:=D aQ;clear aQ
             by_cases ac:Kp=true
             ·subst ac
              rw [if_pos rfl] at H;obtain ⟨Kg,aS,H⟩:=bs_.mp H;(try dsimp only at H);have bq:=D aS;clear aS;have aT:=D H;clear H
              try go_wp2
              (try (rw [drewN_self wr];generalize hq_:World.drewN wr _=wr;have d:Aside0 (Kd.R (Kd.int .i64) 3 wr w.heap.size (fun _=>True) Ue Oe):=⟨by rw [← hq_];exact (pR_ Xa.out)⟩;have i:Aside0 (Kd.N k44 44 wr w.heap.size (fun k_=>some k_≠(Ue:Value).ownBlock) (Y Me Ua.length Je) Ua):=⟨by rw [← hq_];exact (pN_ Ka.out)⟩;have l:Aside0 (wr.heap[Jb]?=some (.cells #[I L Ub,I L Xb,I L Jc] 29 (0,0))):=⟨by rw [← hq_];exact (pk_ Ja.out)⟩;have m:Aside0 (wr.heap[Mb]?=some (.cells #[I L Jd,I L Md,I L Ud] 29 (0,0))):=⟨by rw [← hq_];exact (pk_ Ma.out)⟩;have q:Aside0 (wr.heap[Ob]?=some (.cells #[I L Od,I L Xd,I L Ke] 29 (0,0))):=⟨by rw [← hq_];exact (pk_ Oa.out)⟩;have s:Aside0 (Below w.heap.size w wr):=⟨by rw [← hq_];exact (pB_ HB.out)⟩;clear Xa Ka Ja Ma Oa HB hq_;have Xa:=d;have Ka:=i;have Ja:=l;have Ma:=m;have Oa:=q;have HB:=s;clear d i l m q s))
              have n_:=an_ (Kd.N_drew Ka.out)<|an_ (Kd.R_drew Xa.out)<|an_ (blk_drew Ja.out)<|an_ (blk_drew Ma.out)<|an_ (blk_drew Oa.out)<|D (below_drew1 HB.out)
              clear Ka Xa Ja Ma Oa HB;obtain ⟨Ka,Xa,Ja,Ma,Oa,HB⟩:=n_;refine start_ (n:=30) (S:=fun w'=>w'.cell? ⟨Mb,0,none⟩=some (I L Jd)∧w'.cell? ⟨Mb,1,none⟩=some (I L Md)∧w'.cell? ⟨Mb,2,none⟩=some (I L Ud)∧w'.cell? ⟨Ob,0,none⟩=some (I L Od)∧w'.cell? ⟨Ob,1,none⟩=some (I L Xd)∧w'.cell? ⟨Ob,2,none⟩=some (I L Ke)∧w'.cell? ⟨Jb,0,none⟩=some (I L Ub)∧w'.cell? ⟨Jb,1,none⟩=some (I L Xb)∧w'.cell? ⟨Jb,2,none⟩=some (I L Jc)) (ds:=[]) (bz 30 0) (by kernel_rfl) rfl (by kernel_rfl) (bk3_ Ma.out (bk3_ Oa.out (be3_ Ja.out))) (fun hHeld=>?_);refine with_tabW laws_FnTakenAdds.tab17 laws_FnTakenAdds.bits17 (fun HT_ HW_=>?_);generalize wr.drew=bS at Ka Xa Ja Ma Oa HB hHeld ⊢;refine pb_ 1 ?_;refine pb_ 4 ?_;refine pb_ 8 ?_;refine tb_ 0 rfl rfl hHeld Z63 ?_;refine tb_ 3 rfl rfl hHeld Z63 ?_;refine tb_ 7 rfl rfl hHeld Z63 ?_;refine oa_ 2 113 30 415 HT_ (fun K hK=>?_);refine goes_ Try.func13 (by kernel_rfl) rfl #[.agg #[I L Jd,I L Md,I L Ud],I L Kc] (by rfl) rfl rfl Z20 ?_;with_reducible refine (laws_vec.calls Jd Md Ud Kc Uf _ aJ.out).mono ?_
              rintro e bT ⟨rfl,hb⟩;refine ⟨_,rfl,?_⟩
              have n_:=an_ (Kd.N_below (pN_ Ka.out) hb)<|an_ (Kd.R_below (pR_ Xa.out) hb)<|an_ (blk_below (pk_ Ja.out) hb)<|an_ (blk_below (pk_ Ma.out) hb)<|an_ (blk_below (pk_ Oa.out) hb)<|D (below_step (pB_ HB.out) hb)
              clear Ka Xa Ja Ma Oa HB;obtain ⟨Ka,Xa,Ja,Ma,Oa,HB⟩:=n_;refine hK.out _ _ (bk3_ Ma.out (bk3_ Oa.out (be3_ Ja.out))) (fun hHeld=>?_);clear hK K;refine nx_ (N:=some 113) ?_;refine oa_ 5 116 30 447 HT_ (fun K hK=>?_);refine goes_ Try.func13 (by kernel_rfl) rfl #[.agg #[I L Od,I L Xd,I L Ke],I L Kc] (by rfl) rfl rfl Z20 ?_;with_reducible refine (laws_vec.calls Od Xd Ke Kc Xf _ aL.out).mono ?_
              rintro e bU ⟨rfl,hb⟩;refine ⟨_,rfl,?_⟩
              have n_:=an_ (Kd.N_below (pN_ Ka.out) hb)<|an_ (Kd.R_below (pR_ Xa.out) hb)<|an_ (blk_below (pk_ Ja.out) hb)<|an_ (blk_below (pk_ Ma.out) hb)<|an_ (blk_below (pk_ Oa.out) hb)<|D (below_step (pB_ HB.out) hb)
              clear Ka Xa Ja Ma Oa HB;obtain ⟨Ka,Xa,Ja,Ma,Oa,HB⟩:=n_;refine hK.out _ _ (bk3_ Ma.out (bk3_ Oa.out (be3_ Ja.out))) (fun hHeld=>?_);clear hK K;refine nx_ (N:=some 116) ?_;refine pb_ 6 ?_;refine oa_ 9 120 30 1023 HT_ (fun K hK=>?_);refine goes_ Try.func13 (by kernel_rfl) rfl #[.agg #[I L Ub,I L Xb,I L Jc],I L Kc] (by rfl) rfl rfl Z20 ?_;with_reducible refine (laws_vec.calls Ub Xb Jc Kc Jg _ aN.out).mono ?_
              rintro e bV ⟨rfl,hb⟩;refine ⟨_,rfl,?_⟩
              have n_:=an_ (Kd.N_below (pN_ Ka.out) hb)<|an_ (Kd.R_below (pR_ Xa.out) hb)<|an_ (blk_below (pk_ Ja.out) hb)<|an_ (blk_below (pk_ Ma.out) hb)<|an_ (blk_below (pk_ Oa.out) hb)<|D (below_step (pB_ HB.out) hb)
              clear Ka Xa Ja Ma Oa HB;obtain ⟨Ka,Xa,Ja,Ma,Oa,HB⟩:=n_;refine hK.out _ _ (bk3_ Ma.out (bk3_ Oa.out (be3_ Ja.out))) (fun hHeld=>?_);clear hK K;refine nx_ (N:=some 120) ?_;refine pb_ 10 ?_;refine pb_ 11 ?_;refine pb_ 13 ?_;refine pb_ 15 ?_;refine tb_ 12 rfl rfl hHeld Z63 ?_;refine oa_ 14 125 30 65535 HT_ (fun K hK=>?_);refine goes_ Try.func13 (by kernel_rfl) rfl #[.agg #[I L Ub,I L Xb,I L Jc],I L Kc] (by rfl) rfl rfl Z20 ?_;with_reducible refine (laws_vec.calls Ub Xb Jc Kc Xg _ aP.out).mono ?_
              rintro e bW ⟨rfl,hb⟩;refine ⟨_,rfl,?_⟩
              have n_:=an_ (Kd.N_below (pN_ Ka.out) hb)<|an_ (Kd.R_below (pR_ Xa.out) hb)<|an_ (blk_below (pk_ Ja.out) hb)<|an_ (blk_below (pk_ Ma.out) hb)<|an_ (blk_below (pk_ Oa.out) hb)<|D (below_step (pB_ HB.out) hb)
              clear Ka Xa Ja Ma Oa HB;obtain ⟨Ka,Xa,Ja,Ma,Oa,HB⟩:=n_;obtain ⟨Mp,Op,aU⟩:=Kd.R_slice Xa.out;(first|subst aU|obtain ⟨rfl,rfl⟩:=sl_inj aU);refine hK.out _ _ (bk3_ Ma.out (bk3_ Oa.out (be3_ Ja.out))) (fun hHeld=>?_);clear hK K;refine nx_ (N:=some 125) ?_;refine pb_ 16 ?_;refine pb_ 17 ?_;refine pb_ 18 ?_;refine pb_ 19 ?_;refine pb_ 20 ?_;refine oa_ 21 132 30 4194303 HT_ (fun K hK=>?_);refine goes_ Try.func14 (by kernel_rfl) rfl #[Y Mp Oe.length Op,I L Kc] (by rfl) rfl rfl Z20 ?_;with_reducible refine (laws_in.calls G _ _ Oe Kc true _ ?side1 ?side2 aR.out).mono ?_
              (case side1=>exact pC_ ((Kd.R_reads' Xa.out).2.2));(case side2=>exact (Kd.R_reads' Xa.out).2.1);rintro e w' ⟨rfl,⟨nd,rfl⟩⟩;refine ⟨_,rfl,?_⟩;refine hK.out _ _ (bk3_ Ma.out (bk3_ Oa.out (be3_ Ja.out))) (fun hHeld=>?_);clear hK K;refine nx_ (N:=some 132) ?_;refine pb_ 22 ?_;refine pb_ 24 ?_;refine pb_ 26 ?_;refine tb_ 23 rfl rfl hHeld Z63 ?_;refine oa_ 25 136 30 134217727 HT_ (fun K hK=>?_);refine goes_ Try.func13 (by kernel_rfl) rfl #[.agg #[I L Ub,I L Xb,I L Jc],I L Kc] (by rfl) rfl rfl Z20 ?_;with_reducible refine (laws_vec.calls Ub Xb Jc Kc Kg _ bq.out).mono ?_
              rintro e bX ⟨rfl,hb⟩;refine ⟨_,rfl,?_⟩
              have n_:=an_ (Kd.N_below (pN_ Ka.out) hb)<|an_ (Kd.R_below (pR_ Xa.out) hb)<|an_ (blk_below (pk_ Ja.out) hb)<|an_ (blk_below (pk_ Ma.out) hb)<|an_ (blk_below (pk_ Oa.out) hb)<|D (below_step (pB_ HB.out) hb)
              clear Ka Xa Ja Ma Oa HB;obtain ⟨Ka,Xa,Ja,Ma,Oa,HB⟩:=n_;refine hK.out _ _ (bk3_ Ma.out (bk3_ Oa.out (be3_ Ja.out))) (fun hHeld=>?_);clear hK K;refine nx_ (N:=some 136) ?_;refine pb_ 27 ?_;refine pb_ 28 ?_;refine pb_ 29 ?_;refine done_ (done_of HT_.out (by kernel_rfl)) ?_
              go_upto_if 140 with (fail)
              have H:=aT.out;clear aT
              by_cases z:Kg=Jf
              ·rw [if_pos z] at H
               have ak:(Kg == Jf)=true:=beq_iff_eq.mpr z;have bs:(Kg != Jf)=false:=bne_eq_false_iff_eq.mpr z;clear z;refine rw_ ak ?_;have H':=D H;clear H
               go_wp2
               go_roundg G
               case measure=>have:=B.out;have:=aa.out;have:=ab.out;omega
               case rel=>exact ⟨(wrap64 (Kc+1)),Z69,H',⟨by have:=B.out;have:=aa.out;have:=ab.out;omega⟩,⟨pN_ Ka.out⟩,⟨pR_ Xa.out⟩,⟨pk_ Ja.out⟩,⟨pk_ Ma.out⟩,⟨pk_ Oa.out⟩,⟨pB_ HB.out⟩⟩
              ·rw [if_neg z] at H
               have ak:(Kg == Jf)=false:=beq_eq_false_iff_ne.mpr z;have bs:(Kg != Jf)=true:=bne_iff_ne.mpr z;refine rw_ ak ?_;exact absurd (Option.some.inj H) Z72
             ·replace ac:=Bool.eq_false_iff.mpr ac
              subst ac;rw [if_neg (show ¬ (false=true) by decide)] at H;have H':=D H;clear H
              try go_wp2
              (try (rw [drewN_self wr];generalize hq_:World.drewN wr _=wr;have d:Aside0 (Kd.R (Kd.int .i64) 3 wr w.heap.size (fun _=>True) Ue Oe):=⟨by rw [← hq_];exact (pR_ Xa.out)⟩;have i:Aside0 (Kd.N k44 44 wr w.heap.size (fun k_=>some k_≠(Ue:Value).ownBlock) (Y Me Ua.length Je) Ua):=⟨by rw [← hq_];exact (pN_ Ka.out)⟩;have l:Aside0 (wr.heap[Jb]?=some (.cells #[I L Ub,I L Xb,I L Jc] 29 (0,0))):=⟨by rw [← hq_];exact (pk_ Ja.out)⟩;have m:Aside0 (wr.heap[Mb]?=some (.cells #[I L Jd,I L Md,I L Ud] 29 (0,0))):=⟨by rw [← hq_];exact (pk_ Ma.out)⟩;have q:Aside0 (wr.heap[Ob]?=some (.cells #[I L Od,I L Xd,I L Ke] 29 (0,0))):=⟨by rw [← hq_];exact (pk_ Oa.out)⟩;have s:Aside0 (Below w.heap.size w wr):=⟨by rw [← hq_];exact (pB_ HB.out)⟩;clear Xa Ka Ja Ma Oa HB hq_;have Xa:=d;have Ka:=i;have Ja:=l;have Ma:=m;have Oa:=q;have HB:=s;clear d i l m q s))
              have n_:=an_ (Kd.N_drew Ka.out)<|an_ (Kd.R_drew Xa.out)<|an_ (blk_drew Ja.out)<|an_ (blk_drew Ma.out)<|an_ (blk_drew Oa.out)<|D (below_drew1 HB.out)
              clear Ka Xa Ja Ma Oa HB;obtain ⟨Ka,Xa,Ja,Ma,Oa,HB⟩:=n_;refine start_ (n:=30) (S:=fun w'=>w'.cell? ⟨Mb,0,none⟩=some (I L Jd)∧w'.cell? ⟨Mb,1,none⟩=some (I L Md)∧w'.cell? ⟨Mb,2,none⟩=some (I L Ud)∧w'.cell? ⟨Ob,0,none⟩=some (I L Od)∧w'.cell? ⟨Ob,1,none⟩=some (I L Xd)∧w'.cell? ⟨Ob,2,none⟩=some (I L Ke)∧w'.cell? ⟨Jb,0,none⟩=some (I L Ub)∧w'.cell? ⟨Jb,1,none⟩=some (I L Xb)∧w'.cell? ⟨Jb,2,none⟩=some (I L Jc)) (ds:=[]) (bz 30 0) (by kernel_rfl) rfl (by kernel_rfl) (bk3_ Ma.out (bk3_ Oa.out (be3_ Ja.out))) (fun hHeld=>?_);refine with_tabW laws_FnTakenAdds.tab17 laws_FnTakenAdds.bits17 (fun HT_ HW_=>?_);generalize wr.drew=bY at Ka Xa Ja Ma Oa HB hHeld ⊢;refine pb_ 1 ?_;refine pb_ 4 ?_;refine pb_ 8 ?_;refine tb_ 0 rfl rfl hHeld Z63 ?_;refine tb_ 3 rfl rfl hHeld Z63 ?_;refine tb_ 7 rfl rfl hHeld Z63 ?_;refine oa_ 2 113 30 415 HT_ (fun K hK=>?_);refine goes_ Try.func13 (by kernel_rfl) rfl #[.agg #[I L Jd,I L Md,I L Ud],I L Kc] (by rfl) rfl rfl Z20 ?_;with_reducible refine (laws_vec.calls Jd Md Ud Kc Uf _ aJ.out).mono ?_
              rintro e bZ ⟨rfl,hb⟩;refine ⟨_,rfl,?_⟩
              have n_:=an_ (Kd.N_below (pN_ Ka.out) hb)<|an_ (Kd.R_below (pR_ Xa.out) hb)<|an_ (blk_below (pk_ Ja.out) hb)<|an_ (blk_below (pk_ Ma.out) hb)<|an_ (blk_below (pk_ Oa.out) hb)<|D (below_step (pB_ HB.out) hb)
              clear Ka Xa Ja Ma Oa HB;obtain ⟨Ka,Xa,Ja,Ma,Oa,HB⟩:=n_;refine hK.out _ _ (bk3_ Ma.out (bk3_ Oa.out (be3_ Ja.out))) (fun hHeld=>?_);clear hK K;refine nx_ (N:=some 113) ?_;refine oa_ 5 116 30 447 HT_ (fun K hK=>?_);refine goes_ Try.func13 (by kernel_rfl) rfl #[.agg #[I L Od,I L Xd,I L Ke],I L Kc] (by rfl) rfl rfl Z20 ?_;with_reducible refine (laws_vec.calls Od Xd Ke Kc Xf _ aL.out).mono ?_
              rintro e b0 ⟨rfl,hb⟩;refine ⟨_,rfl,?_⟩
              have n_:=an_ (Kd.N_below (pN_ Ka.out) hb)<|an_ (Kd.R_below (pR_ Xa.out) hb)<|an_ (blk_below (pk_ Ja.out) hb)<|an_ (blk_below (pk_ Ma.out) hb)<|an_ (blk_below (pk_ Oa.out) hb)<|D (below_step (pB_ HB.out) hb)
              clear Ka Xa Ja Ma Oa HB;obtain ⟨Ka,Xa,Ja,Ma,Oa,HB⟩:=n_;refine hK.out _ _ (bk3_ Ma.out (bk3_ Oa.out (be3_ Ja.out))) (fun hHeld=>?_);clear hK K;refine nx_ (N:=some 116) ?_;refine pb_ 6 ?_;refine oa_ 9 120 30 1023 HT_ (fun K hK=>?_);refine goes_ Try.func13 (by kernel_rfl) rfl #[.agg #[I L Ub,I L Xb,I L Jc],I L Kc] (by rfl) rfl rfl Z20 ?_;with_reducible refine (laws_vec.calls Ub Xb Jc Kc Jg _ aN.out).mono ?_
              rintro e b1 ⟨rfl,hb⟩;refine ⟨_,rfl,?_⟩
              have n_:=an_ (Kd.N_below (pN_ Ka.out) hb)<|an_ (Kd.R_below (pR_ Xa.out) hb)<|an_ (blk_below (pk_ Ja.out) hb)<|an_ (blk_below (pk_ Ma.out) hb)<|an_ (blk_below (pk_ Oa.out) hb)<|D (below_step (pB_ HB.out) hb)
              clear Ka Xa Ja Ma Oa HB;obtain ⟨Ka,Xa,Ja,Ma,Oa,HB⟩:=n_;refine hK.out _ _ (bk3_ Ma.out (bk3_ Oa.out (be3_ Ja.out))) (fun hHeld=>?_);clear hK K;refine nx_ (N:=some 120) ?_;refine pb_ 10 ?_;refine pb_ 11 ?_;refine pb_ 13 ?_;refine pb_ 15 ?_;refine tb_ 12 rfl rfl hHeld Z63 ?_;refine oa_ 14 125 30 65535 HT_ (fun K hK=>?_);refine goes_ Try.func13 (by kernel_rfl) rfl #[.agg #[I L Ub,I L Xb,I L Jc],I L Kc] (by rfl) rfl rfl Z20 ?_;with_reducible refine (laws_vec.calls Ub Xb Jc Kc Xg _ aP.out).mono ?_
              rintro e b2 ⟨rfl,hb⟩;refine ⟨_,rfl,?_⟩
              have n_:=an_ (Kd.N_below (pN_ Ka.out) hb)<|an_ (Kd.R_below (pR_ Xa.out) hb)<|an_ (blk_below (pk_ Ja.out) hb)<|an_ (blk_below (pk_ Ma.out) hb)<|an_ (blk_below (pk_ Oa.out) hb)<|D (below_step (pB_ HB.out) hb)
              clear Ka Xa Ja Ma Oa HB;obtain ⟨Ka,Xa,Ja,Ma,Oa,HB⟩:=n_;obtain ⟨Up,Xp,aV⟩:=Kd.R_slice Xa.out;(first|subst aV|obtain ⟨rfl,rfl⟩:=sl_inj aV);refine hK.out _ _ (bk3_ Ma.out (bk3_ Oa.out (be3_ Ja.out))) (fun hHeld=>?_);clear hK K;refine nx_ (N:=some 125) ?_;refine pb_ 16 ?_;refine pb_ 17 ?_;refine pb_ 18 ?_;refine pb_ 19 ?_;refine pb_ 20 ?_;refine oa_ 21 132 30 4194303 HT_ (fun K hK=>?_);refine goes_ Try.func14 (by kernel_rfl) rfl #[Y Up Oe.length Xp,I L Kc] (by rfl) rfl rfl Z20 ?_;with_reducible refine (laws_in.calls G _ _ Oe Kc false _ ?side1 ?side2 aR.out).mono ?_
              (case side1=>exact pC_ ((Kd.R_reads' Xa.out).2.2));(case side2=>exact (Kd.R_reads' Xa.out).2.1);rintro e w' ⟨rfl,⟨nd,rfl⟩⟩;refine ⟨_,rfl,?_⟩;refine hK.out _ _ (bk3_ Ma.out (bk3_ Oa.out (be3_ Ja.out))) (fun hHeld=>?_);clear hK K;refine nx_ (N:=some 132) ?_;refine pb_ 22 ?_;refine ob_ 23 ?_;refine ob_ 24 ?_;refine ob_ 25 ?_;refine ob_ 26 ?_;refine ob_ 27 ?_;refine pb_ 28 ?_;refine pb_ 29 ?_;refine done_ (done_of HT_.out (by kernel_rfl)) ?_
              try go_wp2
              go_roundg G
              case measure=>have:=B.out;have:=aa.out;have:=ab.out;omega
              case rel=>exact ⟨(wrap64 (Kc+1)),Z69,H',⟨by have:=B.out;have:=aa.out;have:=ab.out;omega⟩,⟨pN_ Ka.out⟩,⟨pR_ Xa.out⟩,⟨pk_ Ja.out⟩,⟨pk_ Ma.out⟩,⟨pk_ Oa.out⟩,⟨pB_ HB.out⟩⟩
           ·rw [if_neg y] at H
            have bn:((wrap64 (Uf+Xf)) == Jg)=false:=beq_eq_false_iff_ne.mpr y;have bo:((wrap64 (Uf+Xf)) != Jg)=true:=bne_iff_ne.mpr y;exact absurd (Option.some.inj H) Z72
          ·rw [if_neg J] at H
           have bm:decide (Kc < 3)=false:=decide_eq_false J;clear J;obtain ⟨Jq,aW,H⟩:=bs_.mp H;(try dsimp only at H);have bu:=D aW;clear aW;obtain ⟨Kq,aX,H⟩:=bs_.mp H;(try dsimp only at H);have bv:=D aX;clear aX;obtain rfl:=Option.some.inj H
           go_wp2_with (first|((with_reducible refine gate_callee (f:=8) rfl ?_);refine goesL_ (some 146) rfl rfl Try.func8 (by kernel_rfl) rfl #[Y Me Ua.length Je,I L Uc,I L Kb,I L (wrap64 (Kb+Xe))] rfl Z20 ?_;(with_reducible refine (impl_Tops.calls G _ _ Ua Uc Kb (wrap64 (Kb+Xe)) Jq _ ?side1 ?side2 bu.out).mono ?_);(case side1=>exact pC_ ((Kd.N_reads' Ka.out).2.2));(case side2=>exact (Kd.N_reads' Ka.out).2.1);rintro e b3 ⟨rfl,hb⟩;refine ⟨_,rfl,?_⟩;have n_:=an_ (Kd.N_below (pN_ Ka.out) hb)<|D (below_step (pB_ HB.out) hb);clear Ka HB;obtain ⟨Ka,HB⟩:=n_;(try clear hb))|((with_reducible refine gate_callee (f:=8) rfl ?_);refine goesL_ (some 151) rfl rfl Try.func8 (by kernel_rfl) rfl #[Y Me Ua.length Je,I L Uc,I L (wrap64 (Kb+Xe)),I L Mc] rfl Z20 ?_;(with_reducible refine (impl_Tops.calls G _ _ Ua Uc (wrap64 (Kb+Xe)) Mc Kq _ ?side1 ?side2 bv.out).mono ?_);(case side1=>exact pC_ ((Kd.N_reads' Ka.out).2.2));(case side2=>exact (Kd.N_reads' Ka.out).2.1);rintro e b4 ⟨rfl,hb⟩;refine ⟨_,rfl,?_⟩;have n_:=an_ (Kd.N_below (pN_ Ka.out) hb)<|D (below_step (pB_ HB.out) hb);clear Ka HB;obtain ⟨Ka,HB⟩:=n_;(try clear hb)))
           go_ret;exact ⟨er_,pB_ HB.out⟩
def laws_FnTakenAdds.Pure:Prop:=∀ (l0:List Int),l0.length≤maxLen→l0.length * 1≤140737488351232→(∀ x ∈ l0,(Lit.int .u8 x).wf=true)→∃ k,laws_FnTakenAdds.f k l0=some true
theorem laws_FnTakenAdds.walk (P:laws_FnTakenAdds.Pure) (b:Option Addr) (len0 cap0:Nat) (a:List Int) (w:World) (c:(b=none∧len0=0∧cap0=0∧a=[])∨∃ x,b=some x∧len0≤cap0∧cap0≤maxLen∧a.length=cap0∧(∀ i,i < a.length→w.cell? (x.add i)=some (.int .u8 (a.getD i 0)))∧∀ n ∈ a,(Lit.int .u8 n).wf=true) (g:len0 * 1≤140737488351232) :
  Calls Try.prog 3 #[Y b len0 cap0] w fun e w'=>e=.returned (.bool true)∧Below w.heap.size w w':=by
 obtain ⟨l0,rfl,j,l,m,o⟩:=ReadsInt.ofRowC c
 obtain ⟨k,h⟩:=P l0 l g m
 refine (laws_FnTakenAdds.calls k _ _ l0 true w (Kd.C_of_reads (d:=(0:Int)) (h1:=fun _=>rfl) j) o ⟨rfl⟩ h).mono ?_
 rintro e w' ⟨rfl,hd⟩
 exact ⟨rfl,hd⟩
end Go.Proofs.Ytpkdkhhknmlpjaa.PFnTakenAdds
