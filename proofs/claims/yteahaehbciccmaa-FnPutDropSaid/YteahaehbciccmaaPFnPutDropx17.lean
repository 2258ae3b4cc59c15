-- by a program of this session's, over the kit's words
import Derived.Test.YteahaehbciccmaaPZFnPutDrop
import Derived.Test.YteahaehbciccmaaPFnPutDropx0
import Derived.Test.YteahaehbciccmaaPFnPutDropx16
namespace Go.Proofs.Yteahaehbciccmaa.PFnPutDrop
open Go.RowKit Go.Proofs.YteahaehbciccmaaW.PrintWords Go.Proofs.YteahaehbciccmaaW.PrintLast Go.Proofs.YteahaehbciccmaaW.PrintMore Go.Proofs.YteahaehbciccmaaV Go.Proofs.Yteahaehbciccmaa.ZFnPutDrop
open Go.Value renaming int → I, slice → Y
open Go.IntKind renaming i64 → L
open Aside0 renaming mk → D
open Option renaming bind_eq_some_iff → bs_
attribute [local go_sem] qad_ qab_ qak_ qaj_ q4_ q3_ qac_ qaa_
set_option linter.unusedVariables false
set_option linter.unusedSimpArgs false
set_option maxHeartbeats 8000000
set_option maxRecDepth 100000
def impl_Put32.f (k:Nat) (a0:Int):Option (List Int):=(impl_put.f k a0 4).bind fun a=>(some a)
theorem impl_Put32.calls (k:Nat) (a0:Int) (r:List Int) (w:World) (h:impl_Put32.f k a0=some r) :
  Calls Try.prog 61 #[I L a0] w fun e w'=>∃ b:Value,e=.returned (b)∧Kd.R (Kd.int .u8) 5 w' w.heap.size (fun _=>True) b r∧Below w.heap.size w w':=by
 have HB:=D (Below.refl w.heap.size w)
 have H:((impl_put.f k a0 4).bind fun a=>(some a))=some r:=h
 clear h
 obtain ⟨a,c,H⟩:=bs_.mp H
 (try dsimp only at H)
 have g:=D c
 clear c
 obtain rfl:=Option.some.inj H
 go_enter Try.func61,Try.ntmps61
 go_wp2_with (first|((with_reducible refine qd_ (f:=62) rfl ?_);refine qk_ (some 4) rfl rfl Try.func62 (by kernel_rfl) rfl #[I L a0,I L 4] rfl Z12 ?_;(with_reducible refine (impl_put.calls k a0 4 a _ g.out).mono ?_);rintro e j ⟨l,rfl,d,hb⟩;refine ⟨_,rfl,?_⟩;have n_:=an_ (Kd.R_lower d (qh_ (pB_ HB.out)))<|D (qc_ (pB_ HB.out) hb);clear HB;obtain ⟨i,HB⟩:=n_;(try clear hb);(try clear d)))
 go_ret
 exact ⟨_,er_,by (with_reducible repeat (first|apply Kd.R_alloc|apply Kd.R_drewN|apply Kd.R_drew));exact i.out,pB_ HB.out⟩
def impl_AddrBytes.f (k:Nat) (b c d e a:Int):Option (List Int):=(impl_AddrOk.f b c d e a).bind fun g=>(if g=true then (if b=4 then ((impl_Put32.f k a).bind fun h=>(some h)) else ((impl_Put32.f k c).bind fun i=>((impl_Put32.f k d).bind fun j=>((impl_Put32.f k e).bind fun l=>((impl_Put32.f k a).bind fun m=>((slices_Concat_byte_byte.f k (([i,j,l,m]:List (List Int)))).bind fun n=>(some n))))))) else (some ([]:List Int)))
def impl_AddrBytes.T5:Bool×List (List Nat×List Nat):=(true,[([],[]),([0],[0]),([1],[1]),([],[]),([3],[3]),([4,2],[4]),([],[]),([6],[6]),([7,5],[7]),([],[]),([9],[9]),([10,8],[10]),([2,5,8,11],[2,5,8,11]),([12,11],[12]),([13,13,0,1,2,3,4,5,6,7,8,9,10,11,12,13],[13])])
def impl_AddrBytes.B5:List Nat:=[0,1,3,0,8,31,0,64,255,0,512,2047,4095,8191,16383]
theorem impl_AddrBytes.tab5:rtab .any (opsOf Try.f52 5)=impl_AddrBytes.T5:=by kernel_rfl
theorem impl_AddrBytes.bits5:q8_ impl_AddrBytes.T5.2 impl_AddrBytes.B5=true:=by kernel_rfl
theorem impl_AddrBytes.calls (k:Nat) (g l m o i:Int) (r:List Int) (w:World) (h:impl_AddrBytes.f k g l m o i=some r) :
  Calls Try.prog 52 #[.agg #[I L g,I L l,I L m,I L o,I L i]] w fun e w'=>∃ O:Value,e=.returned (O)∧Kd.R (Kd.int .u8) 5 w' w.heap.size (fun _=>True) O r∧Below w.heap.size w w':=by
 have hu28:=Try.underlying28
 have HB:=D (Below.refl w.heap.size w)
 have H:((impl_AddrOk.f g l m o i).bind fun B=>(if B=true then (if g=4 then ((impl_Put32.f k i).bind fun G=>(some G)) else ((impl_Put32.f k l).bind fun p=>((impl_Put32.f k m).bind fun q=>((impl_Put32.f k o).bind fun s=>((impl_Put32.f k i).bind fun u=>((slices_Concat_byte_byte.f k (([p,q,s,u]:List (List Int)))).bind fun y=>(some y))))))) else (some ([]:List Int))))=some r:=h
 clear h
 obtain ⟨B,P,H⟩:=bs_.mp H
 (try dsimp only at H)
 have A2:=D P
 clear P
 have T:=D H
 clear H
 go_enter Try.func52,Try.ntmps52
 go_upto_if 3 with (first|((with_reducible refine qg_ (N:=1) rfl ?_);refine bx_ (N:=1) (cs:=#[I L g,I L l,I L m,I L o,I L i]) (t:=28) ?_;intro c hg w4 hbox hb;have n_:=an_ (qc_ (pB_ HB.out) hb)<|an_ (hbox)<|an_ (bg_ hg (pB_ HB.out):w.heap.size≤c)<|D (bg_ hg (pB_ HB.out):w.heap.size≤c);clear HB;obtain ⟨HB,a,ax,ay⟩:=n_;clear hb hbox hg;have az:=q5_ a.out)|((with_reducible refine qd_ (f:=58) rfl ?_);refine qk_ (some 5) rfl rfl Try.func58 (by kernel_rfl) rfl #[.agg #[I L g,I L l,I L m,I L o,I L i]] rfl Z12 ?_;(with_reducible refine (impl_AddrOk.calls g l m o i B _ A2.out).mono ?_);rintro e w6 ⟨rfl,hb⟩;refine ⟨_,rfl,?_⟩;have n_:=an_ (qb_ (pk_ a.out) hb)<|D (qc_ (pB_ HB.out) hb);clear a HB;obtain ⟨a,HB⟩:=n_;(try clear hb)))
 have H:=T.out
 clear T
 by_cases c7:B=true
 ·subst c7
  rw [if_pos rfl] at H
  by_cases c8:g=4
  ·rw [if_pos c8] at H
   have J:(g == 4)=true:=beq_iff_eq.mpr c8;have ak:(g != 4)=false:=bne_eq_false_iff_eq.mpr c8;clear c8;refine rw_ J ?_;obtain ⟨G,U,H⟩:=bs_.mp H;(try dsimp only at H);have A9:=D U;clear U;obtain rfl:=Option.some.inj H;have aA:=q5_ a.out
   go_wp2_with (first|((with_reducible refine qd_ (f:=61) rfl ?_);refine qk_ (some 13) rfl rfl Try.func61 (by kernel_rfl) rfl #[I L i] rfl Z12 ?_;(with_reducible refine (impl_Put32.calls k i G _ A9.out).mono ?_);rintro e aB ⟨aC,rfl,b,hb⟩;refine ⟨_,rfl,?_⟩;have n_:=an_ (Kd.R_lower b (qh_ (pB_ HB.out)))<|an_ (qb_ (pk_ a.out) hb)<|D (qc_ (pB_ HB.out) hb);clear a HB;obtain ⟨am,a,HB⟩:=n_;(try clear hb);(try clear b)))
   go_ret;exact ⟨_,er_,by (with_reducible repeat (first|apply Kd.R_alloc|apply Kd.R_drewN|apply Kd.R_drew));exact am.out,pB_ HB.out⟩
  ·rw [if_neg c8] at H
   have J:(g == 4)=false:=beq_eq_false_iff_ne.mpr c8;have ak:(g != 4)=true:=bne_iff_ne.mpr c8;refine rw_ J ?_;obtain ⟨p,W,H⟩:=bs_.mp H;(try dsimp only at H);have an:=D W;clear W;obtain ⟨q,X,H⟩:=bs_.mp H;(try dsimp only at H);have ao:=D X;clear X;obtain ⟨s,Z,H⟩:=bs_.mp H;(try dsimp only at H);have ap:=D Z;clear Z;obtain ⟨u,aa,H⟩:=bs_.mp H;(try dsimp only at H);have aq:=D aa;clear aa;obtain ⟨M,z⟩:∃ y_:List (List Int),y_=(([p,q,s,u]:List (List Int))):=⟨_,rfl⟩
   replace H:((slices_Concat_byte_byte.f k M).bind fun y=>(some y))=some r:=by first|(rw [z];with_reducible exact H)|(have H2_:=(Option.bind_some _ _).symm.trans H;rw [z];with_reducible exact H2_)|(have H2_:=(Option.bind_some _ _).symm.trans H;with_reducible exact H2_)|with_reducible exact H|(rw [z];exact H)|exact H
   have ab:=D z;clear z;obtain ⟨y,ac,H⟩:=bs_.mp H;(try dsimp only at H);have ar:=D ac;clear ac;obtain rfl:=Option.some.inj H;have aD:=q5_ a.out
   try go_wp2
   have n_:=an_ (qt_ a.out)<|D (qr_ HB.out)
   clear a HB;obtain ⟨a,HB⟩:=n_;refine qaw_ (n:=15) (S:=fun w'=>w'.cell? ⟨c,0,none⟩=some (I L g)∧w'.cell? ⟨c,1,none⟩=some (I L l)∧w'.cell? ⟨c,2,none⟩=some (I L m)∧w'.cell? ⟨c,3,none⟩=some (I L o)∧w'.cell? ⟨c,4,none⟩=some (I L i)) (ds:=[]) (bz 15 0) (by kernel_rfl) rfl (by kernel_rfl) (be5_ a.out) (fun hHeld=>?_);refine q6_ impl_AddrBytes.tab5 impl_AddrBytes.bits5 (fun HT_ HW_=>?_);generalize w6.drew=aE at a HB hHeld ⊢;refine pb_ 0 ?_;refine pb_ 3 ?_;refine pb_ 6 ?_;refine pb_ 9 ?_;refine tb_ 1 rfl rfl hHeld Z21 ?_;refine tb_ 4 rfl rfl hHeld Z21 ?_;refine tb_ 7 rfl rfl hHeld Z21 ?_;refine tb_ 10 rfl rfl hHeld Z21 ?_;refine oa_ 2 16 15 1759 HT_ (fun K hK=>?_);refine goes_ Try.func61 (by kernel_rfl) rfl #[I L l] (by rfl) rfl rfl Z12 ?_;with_reducible refine (impl_Put32.calls k l p _ an.out).mono ?_
   rintro e aF ⟨aG,rfl,b,hb⟩;refine ⟨_,rfl,?_⟩
   have n_:=an_ (Kd.R_lower b (qh_ (pB_ HB.out)))<|an_ (qb_ (pk_ a.out) hb)<|D (qc_ (pB_ HB.out) hb)
   clear a HB;obtain ⟨d,a,HB⟩:=n_;refine hK.out _ _ (be5_ a.out) (fun hHeld=>?_);clear hK K;refine nx_ (N:=some 16) ?_;refine oa_ 5 19 15 1791 HT_ (fun K hK=>?_);refine goes_ Try.func61 (by kernel_rfl) rfl #[I L m] (by rfl) rfl rfl Z12 ?_;with_reducible refine (impl_Put32.calls k m q _ ao.out).mono ?_
   rintro e aH ⟨aI,rfl,b,hb⟩;refine ⟨_,rfl,?_⟩
   have n_:=an_ (Kd.R_elder' (pR_ d.out) (Kd.R_base b) hb)<|an_ (Kd.R_lower (nw_ b (pR_ d.out)) (qh_ (pB_ HB.out)))<|an_ (qb_ (pk_ a.out) hb)<|D (qc_ (pB_ HB.out) hb)
   clear d a HB;obtain ⟨d,j,a,HB⟩:=n_;refine hK.out _ _ (be5_ a.out) (fun hHeld=>?_);clear hK K;refine nx_ (N:=some 19) ?_;refine oa_ 8 22 15 2047 HT_ (fun K hK=>?_);refine goes_ Try.func61 (by kernel_rfl) rfl #[I L o] (by rfl) rfl rfl Z12 ?_;with_reducible refine (impl_Put32.calls k o s _ ap.out).mono ?_
   rintro e aJ ⟨aK,rfl,b,hb⟩;refine ⟨_,rfl,?_⟩
   have n_:=an_ (Kd.R_elder' (pR_ d.out) (Kd.R_base b) hb)<|an_ (Kd.R_elder' (pR_ j.out) (Kd.R_base b) hb)<|an_ (Kd.R_lower (nw_ (nw_ b (pR_ d.out)) (pR_ j.out)) (qh_ (pB_ HB.out)))<|an_ (qb_ (pk_ a.out) hb)<|D (qc_ (pB_ HB.out) hb)
   clear d j a HB;obtain ⟨d,j,v,a,HB⟩:=n_;refine hK.out _ _ (be5_ a.out) (fun hHeld=>?_);clear hK K;refine nx_ (N:=some 22) ?_;refine oa_ 11 25 15 4095 HT_ (fun K hK=>?_);refine goes_ Try.func61 (by kernel_rfl) rfl #[I L i] (by rfl) rfl rfl Z12 ?_;with_reducible refine (impl_Put32.calls k i u _ aq.out).mono ?_
   rintro e au ⟨aL,rfl,b,hb⟩;refine ⟨_,rfl,?_⟩
   have n_:=an_ (Kd.R_elder' (pR_ d.out) (Kd.R_base b) hb)<|an_ (Kd.R_elder' (pR_ j.out) (Kd.R_base b) hb)<|an_ (Kd.R_elder' (pR_ v.out) (Kd.R_base b) hb)<|an_ (Kd.R_lower (nw_ (nw_ (nw_ b (pR_ d.out)) (pR_ j.out)) (pR_ v.out)) (qh_ (pB_ HB.out)))<|an_ (qb_ (pk_ a.out) hb)<|D (qc_ (pB_ HB.out) hb)
   clear d j v a HB;obtain ⟨d,j,v,E,a,HB⟩:=n_;obtain ⟨Ao23,co23,ad⟩:=Kd.R_slice d.out;(first|subst ad|obtain ⟨rfl,rfl⟩:=qas_ ad);obtain ⟨Ao24,co24,ae⟩:=Kd.R_slice j.out;(first|subst ae|obtain ⟨rfl,rfl⟩:=qas_ ae);obtain ⟨Ao25,co25,af⟩:=Kd.R_slice v.out;(first|subst af|obtain ⟨rfl,rfl⟩:=qas_ af);obtain ⟨Ao26,co26,ag⟩:=Kd.R_slice E.out;(first|subst ag|obtain ⟨rfl,rfl⟩:=qas_ ag);refine hK.out _ _ (be5_ a.out) (fun hHeld=>?_);clear hK K;refine nx_ (N:=some 25) ?_;refine oa_ 12 26 15 8191 HT_ (fun K hK=>?_);refine Kd.N_lit_step (Kd.slice 5 (Kd.int .u8)) _ 22 ?hg (N':=26) ?hd (xs:=([p,q,s,u]:List (List Int))) (inner:=[Y Ao23 p.length co23,Y Ao24 q.length co24,Y Ao25 s.length co25,Y Ao26 u.length co26]) (ok:=(fun k_=>k_≠c)) (okp:=(fun k_=>k_≠c)) ?hr ?hp (fun _ hk=>hk) ((show ∀ k_,au.heap.size≤k_→(fun k_=>k_≠c) k_ from fun k_ hk=>Kd.freshB (pk_ a.out) k_ hk) _ (Nat.le_refl _)) (Below.refl _ _) (Nat.le_refl _) (by simp) ?_;(case hd=>rfl);(case hg=>rfl);(case hr=>first|(go_simp;done)|(go_simp;rfl));(case hp=>exact (Reps.one (show Kd.FK (Kd.slice 5 (Kd.int .u8)) _ _ p [Y Ao23 p.length co23] from (Kd.FK_slice_mk (Kd.R_reads' (Kd.R_mono (ok':=(fun k_=>k_≠c)) (Kd.R_types (d.out) a.out (by decide)) (fun k_ hk=>hk.2))).2.1 (by (with_reducible repeat (first|apply Kd.F_alloc|apply Kd.F_drewN|apply Kd.F_drew));exact Kd.R_F (Kd.R_mono (ok':=(fun k_=>k_≠c)) (Kd.R_types (d.out) a.out (by decide)) (fun k_ hk=>hk.2))))) (Reps.one (show Kd.FK (Kd.slice 5 (Kd.int .u8)) _ _ q [Y Ao24 q.length co24] from (Kd.FK_slice_mk (Kd.R_reads' (Kd.R_mono (ok':=(fun k_=>k_≠c)) (Kd.R_types (j.out) a.out (by decide)) (fun k_ hk=>hk.2))).2.1 (by (with_reducible repeat (first|apply Kd.F_alloc|apply Kd.F_drewN|apply Kd.F_drew));exact Kd.R_F (Kd.R_mono (ok':=(fun k_=>k_≠c)) (Kd.R_types (j.out) a.out (by decide)) (fun k_ hk=>hk.2))))) (Reps.one (show Kd.FK (Kd.slice 5 (Kd.int .u8)) _ _ s [Y Ao25 s.length co25] from (Kd.FK_slice_mk (Kd.R_reads' (Kd.R_mono (ok':=(fun k_=>k_≠c)) (Kd.R_types (v.out) a.out (by decide)) (fun k_ hk=>hk.2))).2.1 (by (with_reducible repeat (first|apply Kd.F_alloc|apply Kd.F_drewN|apply Kd.F_drew));exact Kd.R_F (Kd.R_mono (ok':=(fun k_=>k_≠c)) (Kd.R_types (v.out) a.out (by decide)) (fun k_ hk=>hk.2))))) (Reps.one (show Kd.FK (Kd.slice 5 (Kd.int .u8)) _ _ u [Y Ao26 u.length co26] from (Kd.FK_slice_mk (Kd.R_reads' (Kd.R_mono (ok':=(fun k_=>k_≠c)) (Kd.R_types (E.out) a.out (by decide)) (fun k_ hk=>hk.2))).2.1 (by (with_reducible repeat (first|apply Kd.F_alloc|apply Kd.F_drewN|apply Kd.F_drew));exact Kd.R_F (Kd.R_mono (ok':=(fun k_=>k_≠c)) (Kd.R_types (E.out) a.out (by decide)) (fun k_ hk=>hk.2))))) (Reps.none _ _))))));intro aM aN A hb hg_ hnew_;clear hg_ hnew_;(first|rw [← ab.out] at A|(simp only [Int.reduceToNat] at A;rw [← ab.out] at A))
   have n_:=an_ (Kd.N_lower A (qh_ (pB_ HB.out)))<|an_ (qb_ (pk_ a.out) hb)<|D (qc_ (pB_ HB.out) hb)
   clear a HB d j v E;obtain ⟨x,a,HB⟩:=n_;clear hb A;obtain ⟨Ao29,co29,ah⟩:=Kd.N_slice x.out;(first|subst ah|obtain ⟨rfl,rfl⟩:=qas_ ah);refine hK.out _ _ (be5_ a.out) (fun hHeld=>?_);clear hK K;refine nx_ (N:=some 26) ?_;refine oa_ 13 27 15 16383 HT_ (fun K hK=>?_);refine goes_ Try.func51 (by kernel_rfl) rfl #[Y Ao29 M.length co29] (by rfl) rfl rfl Z12 ?_;with_reducible refine (slices_Concat_byte_byte.calls k _ _ M y _ ?side1 ?side2 ar.out).mono ?_
   (case side1=>exact pC_ ((Kd.N_reads' x.out).2.2));(case side2=>exact (Kd.N_reads' x.out).2.1);rintro e aO ⟨aP,rfl,b,hb⟩;refine ⟨_,rfl,?_⟩
   have n_:=an_ (Kd.N_elder' (pN_ x.out) (Kd.R_base b) hb)<|an_ (Kd.R_lower b (qh_ (pB_ HB.out)))<|an_ (qb_ (pk_ a.out) hb)<|D (qc_ (pB_ HB.out) hb)
   clear x a HB;obtain ⟨x,av,a,HB⟩:=n_;refine hK.out _ _ (be5_ a.out) (fun hHeld=>?_);clear hK K;refine nx_ (N:=some 27) ?_;refine pb_ 14 ?_;refine done_ (qaq_ HT_.out (by kernel_rfl)) ?_
   try go_wp2
   go_ret;exact ⟨_,er_,by (with_reducible repeat (first|apply Kd.R_alloc|apply Kd.R_drewN|apply Kd.R_drew));exact av.out,pB_ HB.out⟩
 ·replace c7:=Bool.eq_false_iff.mpr c7
  subst c7;rw [if_neg (show ¬ (false=true) by decide)] at H;obtain rfl:=Option.some.inj H
  go_wp2
  go_ret;exact ⟨_,er_,by first|exact Kd.R_nil _ _ _ _ _|exact Kd.N_nil _ _ _ _ _|exact Kd.V_nil _ _ _ _ _|exact Kd.Q_nil _ _ _ _ _|exact Kd.S_nil _ _ _ _ _,pB_ HB.out⟩
def impl_Put16.f (k:Nat) (a0:Int):Option (List Int):=(impl_put.f k a0 2).bind fun a=>(some a)
theorem impl_Put16.calls (k:Nat) (a0:Int) (r:List Int) (w:World) (h:impl_Put16.f k a0=some r) :
  Calls Try.prog 53 #[I L a0] w fun e w'=>∃ b:Value,e=.returned (b)∧Kd.R (Kd.int .u8) 5 w' w.heap.size (fun _=>True) b r∧Below w.heap.size w w':=by
 have HB:=D (Below.refl w.heap.size w)
 have H:((impl_put.f k a0 2).bind fun a=>(some a))=some r:=h
 clear h
 obtain ⟨a,c,H⟩:=bs_.mp H
 (try dsimp only at H)
 have g:=D c
 clear c
 obtain rfl:=Option.some.inj H
 go_enter Try.func53,Try.ntmps53
 go_wp2_with (first|((with_reducible refine qd_ (f:=62) rfl ?_);refine qk_ (some 4) rfl rfl Try.func62 (by kernel_rfl) rfl #[I L a0,I L 2] rfl Z12 ?_;(with_reducible refine (impl_put.calls k a0 2 a _ g.out).mono ?_);rintro e j ⟨l,rfl,d,hb⟩;refine ⟨_,rfl,?_⟩;have n_:=an_ (Kd.R_lower d (qh_ (pB_ HB.out)))<|D (qc_ (pB_ HB.out) hb);clear HB;obtain ⟨i,HB⟩:=n_;(try clear hb);(try clear d)))
 go_ret
 exact ⟨_,er_,by (with_reducible repeat (first|apply Kd.R_alloc|apply Kd.R_drewN|apply Kd.R_drew));exact i.out,pB_ HB.out⟩
end Go.Proofs.Yteahaehbciccmaa.PFnPutDrop
