-- by a program of this session's, over the kit's words
import Derived.Test.YtpkdkhhknmlpjaaPZFnTakenAdds
import Derived.Test.YtpkdkhhknmlpjaaPFnTakenAddsx0
import Derived.Test.YtpkdkhhknmlpjaaPFnTakenAddsx16
import Derived.Test.YtpkdkhhknmlpjaaPFnTakenAddsx17
namespace Go.Proofs.Ytpkdkhhknmlpjaa.PFnTakenAdds
open Go.RowKit Go.Proofs.YtpkdkhhknmlpjaaW.PrintWords Go.Proofs.YtpkdkhhknmlpjaaW.PrintLast Go.Proofs.YtpkdkhhknmlpjaaW.PrintMore Go.Proofs.YtpkdkhhknmlpjaaV Go.Proofs.Ytpkdkhhknmlpjaa.ZFnTakenAdds
open Go.Value renaming int → I, slice → Y
open Go.IntKind renaming i64 → L
open Aside0 renaming mk → D
open Option renaming bind_eq_some_iff → bs_
attribute [local go_sem] max2_int min2_int max_two min_two max_three min_three max_four min_four
set_option linter.unusedVariables false
set_option linter.unusedSimpArgs false
set_option maxHeartbeats 8000000
set_option maxRecDepth 100000
def impl_taken.l0:Nat→List (S44)→Int→Int→Int→Int→Int→Option (Int×Int×Int)
 | 0,_,_,_,_,_,_=>none
 | k+1,b,d,a,e,g,h=>if a < d then (if 0≤a then (if a < (b.length:Int) then ((impl_Vec_plus.f e g h ((rd_T44 b a).f2.f0) ((rd_T44 b a).f2.f1) ((rd_T44 b a).f2.f2)).bind fun c=>(impl_taken.l0 k b d (wrap64 (a+1)) c.1 c.2.1 c.2.2)) else (none)) else (none)) else (some (e,g,h))
def impl_taken.f (k:Nat) (l0:List (S44)):Option (Int×Int×Int):=impl_taken.l0 k l0 (l0.length:Int) 0 0 0 0
theorem impl_taken.calls (k:Nat) (z:Option Addr) (A:Nat) (l0:List (S44)) (p q r:Int) (w:World) (B:Kd.C k44 w z l0.length l0) (E:l0.length≤A) (h:impl_taken.f k l0=some (p,q,r)) :
  Calls Try.prog 23 #[Y z l0.length A] w fun e w'=>e=.returned (.agg #[I L p,I L q,I L r])∧Below w.heap.size w w':=by
 have hu29:=Try.underlying29
 have hu44:=Try.underlying44
 have ac:=D B
 have ap:=D E
 clear B E
 have HB:=D (Below.refl w.heap.size w)
 have H:(impl_taken.l0 k l0 (l0.length:Int) 0 0 0 0)=some (p,q,r):=h
 clear h
 have H':=D H
 clear H
 go_enter Try.func23,Try.ntmps23
 go_wp2_with (first|((with_reducible refine gate_dst (N:=2) rfl ?_);refine bx_ (N:=2) (cs:=#[I L 0,I L 0,I L 0]) (t:=29) ?_;intro d hg w2 hbox hb;have n_:=an_ (below_step (pB_ HB.out) hb)<|an_ (hbox)<|an_ (bg_ hg (pB_ HB.out):w.heap.size≤d)<|D (bg_ hg (pB_ HB.out):w.heap.size≤d);clear HB;obtain ⟨HB,b,ar,au⟩:=n_;clear hb hbox hg)|((with_reducible refine gate_dst (N:=3) rfl ?_);refine bx_ (N:=3) (cs:=#[I L 0,I L 0,I L 0]) (t:=29) ?_;intro i hg w3 hbox hb;have n_:=an_ (blk_below (pk_ b.out) hb)<|an_ (below_step (pB_ HB.out) hb)<|an_ (hbox)<|an_ (bg_ hg (pB_ HB.out):w.heap.size≤i)<|an_ (bg_ hg (pB_ HB.out):w.heap.size≤i)<|an_ (nl_ hg (pk_ b.out):d≠i)<|D (by rw [hg];exact Nat.ne_of_gt (blk_lt (pk_ b.out)):i≠d);clear b HB;obtain ⟨b,HB,c,aw,ax,u,v⟩:=n_;clear hb hbox hg;(try have:=v.out);(try have:=u.out);have ad:=cells3 c.out))
 go_loopg [9] k (fun kq v9 w'=>∃ (a:Int) (j:Int) (l:Int) (m:Int),v9=I L a∧Aside0 (impl_taken.l0 kq l0 (l0.length:Int) a j l m=some (p,q,r))∧Aside0 (kq≤k)∧Aside0 (w'.heap[d]?=some (.cells #[I L 0,I L 0,I L 0] 29 (0,0)))∧Aside0 (w'.heap[i]?=some (.cells #[I L j,I L l,I L m] 29 (0,0)))∧Aside0 (Below w.heap.size w w'))
 case atStart=>exact ⟨(0),(0),(0),(0),Z69,H',⟨Nat.le_refl _⟩,⟨pP_ b.out⟩,⟨pP_ c.out⟩,⟨pB_ HB.out⟩⟩
 case round =>
  clear H'
  (try clear c2);(try clear p2);(try clear c4);(try clear ad)
  obtain ⟨a,j,l,m,rfl,HA,G,b,c,HB⟩:=hrel
  cases gk with
  | zero=>exact absurd HA.out (by simp [impl_taken.l0])
  | succ k1 =>
   have H:=HA.out;clear HA;simp only [impl_taken.l0] at H
   by_cases c6:a < (l0.length:Int)
   ·rw [if_pos c6] at H
    have ag:decide (a < (l0.length:Int))=true:=decide_eq_true c6;clear c6
    by_cases c7:0≤a
    ·rw [if_pos c7] at H
     have az:decide (0≤a)=true:=decide_eq_true c7;clear c7
     by_cases c8:a < (l0.length:Int)
     ·rw [if_pos c8] at H
      have aA:decide (a < (l0.length:Int))=true:=decide_eq_true c8;clear c8;obtain ⟨⟨J,K,M⟩,O,H⟩:=bs_.mp H;(try dsimp only at H);have A9:=D O;clear O;have H':=D H;clear H;have x:0≤(a:Int):=od_ Z68;have y:a < (l0.length:Int):=od_ Z68;obtain ⟨aB,ai,aj,ak,P,T,U,W,X,Z,aa,ab⟩:=at_T44 ac.out a x y;cases ak;replace P:=rc_ HB.out P;replace T:=rc_ HB.out T;replace U:=rc_ HB.out U;replace W:=rc_ HB.out W;replace X:=rc_ HB.out X;replace Z:=rc_ HB.out Z;have aC:=D ab;have aD:=D aa;clear ab aa;replace x:=eq_true x;replace y:=eq_true y
      go_wp2_with (first|((with_reducible refine gate_dst (N:=5) rfl ?_);refine bx_ (N:=5) (cs:=#[I L 0,I L 0,I L 0,I L 0,I L 0,Y none 0 0]) (t:=44) ?_;intro n hg aE hbox hb;have n_:=an_ (blk_below (pk_ b.out) hb)<|an_ (blk_below (pk_ c.out) hb)<|an_ (below_step (pB_ HB.out) hb)<|an_ (hbox)<|an_ (bg_ hg (pB_ HB.out):w.heap.size≤n)<|an_ (bg_ hg (pB_ HB.out):w.heap.size≤n)<|an_ (nl_ hg (pk_ b.out):d≠n)<|an_ (ng_ hg (pk_ b.out):n≠d)<|an_ (nl_ hg (pk_ c.out):i≠n)<|D (by rw [hg];exact Nat.ne_of_gt (blk_lt (pk_ c.out)):n≠i);clear b c HB;obtain ⟨b,c,HB,s,aF,aG,al,am,an,ao⟩:=n_;clear hb hbox hg;(try have:=am.out);(try have:=al.out);(try have:=ao.out);(try have:=an.out);have aH:=cells6 s.out;(try have:=v.out);(try have:=u.out);have aI:=cells3 c.out)|((with_reducible refine gate_callee (f:=42) rfl ?_);refine goesL_ (some 16) rfl rfl Try.func42 (by kernel_rfl) rfl #[.agg #[I L j,I L l,I L m],.agg #[I L ((rd_T44 l0 a).f2.f0),I L ((rd_T44 l0 a).f2.f1),I L ((rd_T44 l0 a).f2.f2)]] rfl Z20 ?_;(with_reducible refine (impl_Vec_plus.calls j l m ((rd_T44 l0 a).f2.f0) ((rd_T44 l0 a).f2.f1) ((rd_T44 l0 a).f2.f2) J K M _ A9.out).mono ?_);rintro e aJ ⟨rfl,hb⟩;refine ⟨_,rfl,?_⟩;have n_:=an_ (blk_below (g:=d) (o:=.cells #[I L 0,I L 0,I L 0] 29 (0,0)) (by exact pP_ b.out) hb)<|an_ (blk_below (g:=i) (o:=.cells #[I L j,I L l,I L m] 29 (0,0)) (by exact pP_ c.out) hb)<|an_ (blk_below (g:=n) (o:=.cells #[I L ((rd_T44 l0 a).f0),I L ((rd_T44 l0 a).f1),I L ((rd_T44 l0 a).f2.f0),I L ((rd_T44 l0 a).f2.f1),I L ((rd_T44 l0 a).f2.f2),Y ai ((rd_T44 l0 a).f3).length aj] 44 (0,0)) (by exact pP_ s.out) hb)<|D (below_step (pB_ HB.out) hb);clear b c s HB;obtain ⟨b,c,s,HB⟩:=n_;(try clear hb);have aK:=cells3 c.out))
      go_roundg k1
      case measure=>have:=G.out;omega
      case rel=>exact ⟨(wrap64 (a+1)),(J),(K),(M),Z69,H',⟨by have:=G.out;omega⟩,⟨pP_ b.out⟩,⟨pP_ c.out⟩,⟨pB_ HB.out⟩⟩
     ·rw [if_neg c8] at H
      exact absurd H (by simp)
    ·rw [if_neg c7] at H
     exact absurd H (by simp)
   ·rw [if_neg c6] at H
    have ag:decide (a < (l0.length:Int))=false:=decide_eq_false c6;clear c6;simp only [Option.some.injEq,Prod.mk.injEq] at H;obtain ⟨rfl,rfl,rfl⟩:=H;(try have:=v.out);(try have:=u.out);have aL:=cells3 c.out;have aM:=cells3 b.out
    go_wp2
    refine bodyPost_ret (results_cell_row rfl _ _ d 29 #[I L j,I L l,I L m] (0,0) _ rfl (by exact pP_ b.out) Try.underlying29 rfl (by kernel_rfl)) rfl ?_;exact ⟨er_,pB_ HB.out⟩
def impl_dealsOf.l0:Nat→Int→List (S44)→List (S44)→Int→Int→Option ((List (S44)))
 | 0,_,_,_,_,_=>none
 | k+1,d,c,b,e,a=>if a < e then (if 0≤a then (if a < (b.length:Int) then (if ((rd_T44 b a).f0)=d then (if c.length < 2199023255552 then (impl_dealsOf.l0 k d (c ++ [(⟨(rd_T44 b a).f0,(rd_T44 b a).f1,(⟨(rd_T44 b a).f2.f0,(rd_T44 b a).f2.f1,(rd_T44 b a).f2.f2⟩:S29),(rd_T44 b a).f3⟩:S44)]) b e (wrap64 (a+1))) else (none)) else (impl_dealsOf.l0 k d c b e (wrap64 (a+1)))) else (none)) else (none)) else (some c)
def impl_dealsOf.f (k:Nat) (l0:List (S44)) (a:Int):Option ((List (S44))):=impl_dealsOf.l0 k a (([]:List (S44))) l0 (l0.length:Int) 0
theorem impl_dealsOf.calls (k:Nat) (d:Nat→Prop) (x:Option Addr) (s:Nat) (l0:List (S44)) (g:Int) (r:List (S44)) (w:World) (ab:Kd.V k44 44 w w.heap.size (fun k_=>d k_) (Y x l0.length s) l0) (h:impl_dealsOf.f k l0 g=some r) :
  Calls Try.prog 24 #[Y x l0.length s,I L g] w fun e w'=>∃ M:Value,e=.returned (M)∧Kd.N k44 44 w' w.heap.size (fun k_=>(d k_∨w.heap.size≤k_)) M r∧Below w.heap.size w w':=by
 have hu44:=Try.underlying44
 have y:=D (show Kd.V k44 44 w w.heap.size (fun k_=>(d k_∨w.heap.size≤k_)) (Y x l0.length s) l0 from Kd.V_mono ab (fun k_ hk=>.inl hk))
 have HB:=D (Below.refl w.heap.size w)
 have H:(impl_dealsOf.l0 k g (([]:List (S44))) l0 (l0.length:Int) 0)=some r:=h
 clear h
 obtain ⟨O,u⟩:∃ y_:List (S44),y_=(([]:List (S44))):=⟨_,rfl⟩
 replace H:(impl_dealsOf.l0 k g O l0 (l0.length:Int) 0)=some r:=by first|(rw [u];with_reducible exact H)|(have H2_:=(Option.bind_some _ _).symm.trans H;rw [u];with_reducible exact H2_)|(have H2_:=(Option.bind_some _ _).symm.trans H;with_reducible exact H2_)|with_reducible exact H|(rw [u];exact H)|exact H
 have P:=D u
 clear u
 have H':=D H
 clear H
 go_enter Try.func24,Try.ntmps24
 go_wp2_with (first|((with_reducible refine gate_dst (N:=8) rfl ?_);refine Kd.N_lit k44 _ 44 ?hg (N':=8) ?hd (xs:=([]:List (S44))) (inner:=[]) (ok:=(fun k_=>(d k_∨w.heap.size≤k_))) (okp:=(fun k_=>(d k_∨w.heap.size≤k_))) ?hr ?hp (fun _ hk=>hk) ((show ∀ k_,w.heap.size≤k_→(fun k_=>(d k_∨w.heap.size≤k_)) k_ from fun k_ hk=>(.inr (Nat.le_trans (below_size (pB_ HB.out)) hk))) _ (Nat.le_refl _)) (Below.refl _ _) (Nat.le_refl _) (by simp) ?_;(case hd=>rfl);(case hg=>rfl);(case hr=>first|(go_simp;done)|(go_simp;rfl));(case hp=>exact (Reps.none _ _));intro am w3 m hb hg_ hnew_;clear hg_ hnew_;(first|rw [← P.out] at m|(simp only [Int.reduceToNat] at m;rw [← P.out] at m));have n_:=an_ (Kd.V_elder' (pV_ y.out) (Kd.N_base m) hb)<|an_ (Kd.N_lower m (below_size (pB_ HB.out)))<|D (below_step (pB_ HB.out) hb);clear y HB;obtain ⟨y,ac,HB⟩:=n_;clear hb m))
 go_loopg [5,11] k (fun kq T ad w'=>∃ (j:List (S44)) (a:Int),ad=I L a∧Aside0 (impl_dealsOf.l0 kq g j l0 (l0.length:Int) a=some r)∧Aside0 (kq≤k)∧Aside0 (Kd.N k44 44 w' w.heap.size (fun k_=>(d k_∨w.heap.size≤k_)) T j)∧Aside0 (Kd.V k44 44 w' w.heap.size (fun k_=>(d k_∨w.heap.size≤k_)∧some k_≠(T:Value).ownBlock) (Y x l0.length s) l0)∧Aside0 (Below w.heap.size w w'))
 case atStart=>exact ⟨(O),(0),Z69,H',⟨Nat.le_refl _⟩,⟨pN_ ac.out⟩,⟨pV_ y.out⟩,⟨pB_ HB.out⟩⟩
 case round =>
  clear H'
  (try clear c2);(try clear p2)
  obtain ⟨j,a,rfl,HA,z,HO_5,HO_9,HB⟩:=hrel
  cases gk with
  | zero=>exact absurd HA.out (by simp [impl_dealsOf.l0])
  | succ J =>
   have H:=HA.out;clear HA;simp only [impl_dealsOf.l0] at H
   by_cases c5:a < (l0.length:Int)
   ·rw [if_pos c5] at H
    have ae:decide (a < (l0.length:Int))=true:=decide_eq_true c5;clear c5
    by_cases c6:0≤a
    ·rw [if_pos c6] at H
     have ap:decide (0≤a)=true:=decide_eq_true c6;clear c6
     by_cases c7:a < (l0.length:Int)
     ·rw [if_pos c7] at H
      have aq:decide (a < (l0.length:Int))=true:=decide_eq_true c7;clear c7;have U:=D H;clear H;have A:0≤(a:Int):=od_ Z68;have B:a < (l0.length:Int):=od_ Z68;obtain ⟨af,n,o,ag,ar,au,av,aw,ax,ah,W,X⟩:=at_T44 (Kd.V_reads' HO_9.out).2.2 a A B;cases ag;obtain ⟨ce801,hce801,hMe801,Z⟩:=Kd.V_get HO_9.out z44 a A (by first|exact B|exact od_ Z68|(have e_:=(Kd.V_reads' HO_9.out).1;omega));obtain ⟨ua801_5,uc801_5,rfl,ul801_5,ge801_5⟩:=k44_openF hMe801;have hv801_5:=Z 5 _ rfl;rw [add_field _ _ 5 (by omega)] at hv801_5;replace hv801_5:=Option.some.inj (hv801_5.symm.trans ah)
      injection hv801_5 with hva_ hvn_ hvc_
      rw [hva_] at ge801_5;rw [hvc_] at ul801_5;have HL801_5:=D (show Kd.V (Kd.int .i64) 3 _ w.heap.size _ _ ((rd_T44 l0 a).f3) from Kd.V_mk ul801_5 ge801_5);clear hva_ hvn_ hvc_ ge801_5 ul801_5;clear Z hce801;have E:=D X;have ay:=D W;clear X W;replace A:=eq_true A;replace B:=eq_true B
      go_upto_if 18 with (first|((with_reducible refine gate_dst (N:=7) rfl ?_);refine bx_ (N:=7) (cs:=#[I L 0,I L 0,I L 0,I L 0,I L 0,Y none 0 0]) (t:=44) ?_;intro c hg w9 hbox hb;have n_:=an_ (Kd.N_below (Kd.N_elderB (pN_ HO_5.out) c (Nat.le_of_eq hg.symm)) hb)<|an_ (Kd.V_below (Kd.V_elderB (pV_ HO_9.out) c (Nat.le_of_eq hg.symm)) hb)<|an_ (Kd.V_below (Kd.V_elderB (pV_ HL801_5.out) c (Nat.le_of_eq hg.symm)) hb)<|an_ (Kd.C_below (by repeat (first|(with_reducible exact E.out)|(with_reducible refine Kd.C_alloc ?_ _)|(with_reducible refine Kd.C_drewN ?_ _)|(with_reducible refine Kd.C_drew ?_)|exact E.out)) hb)<|an_ (below_step (pB_ HB.out) hb)<|an_ (hbox)<|an_ (bg_ hg (pB_ HB.out):w.heap.size≤c)<|D (bg_ hg (pB_ HB.out):w.heap.size≤c);clear HO_5 HO_9 HL801_5 E HB;obtain ⟨HO_5,HO_9,HL801_5,E,HB,i,aA,aC⟩:=n_;clear hb hbox hg;have aD:=cells6 i.out))
      refine relet_ (F:=fun q=>Aside0 (Kd.N k44 44 q w.heap.size (fun k_=>(d k_∨w.heap.size≤k_)∧k_≠c) u5 j)∧Aside0 (Kd.V k44 44 q w.heap.size (fun k_=>(d k_∨w.heap.size≤k_)∧some k_≠(u5:Value).ownBlock∧k_≠c) (Y (some af) l0.length s) l0)∧Aside0 (Kd.V (Kd.int .i64) 3 q w.heap.size (fun k_=>(d k_∨w.heap.size≤k_)∧some k_≠(u5:Value).ownBlock∧k_≠c) (Y n ((rd_T44 l0 a).f3).length o) ((rd_T44 l0 a).f3))∧Aside0 (q.heap[c]?=some (.cells #[I L ((rd_T44 l0 a).f0),I L ((rd_T44 l0 a).f1),I L ((rd_T44 l0 a).f2.f0),I L ((rd_T44 l0 a).f2.f1),I L ((rd_T44 l0 a).f2.f2),Y n ((rd_T44 l0 a).f3).length o] 44 (0,0)))∧Aside0 (Below w.heap.size w q)) ⟨⟨pN_ (Kd.N_mono (Kd.N_far (p:=⟨c,5,none⟩) (Kd.N_far (p:=⟨c,4,none⟩) (Kd.N_far (p:=⟨c,3,none⟩) (Kd.N_far (p:=⟨c,2,none⟩) (Kd.N_far (p:=⟨c,1,none⟩) (Kd.N_far (p:=⟨c,0,none⟩) (Kd.N_mono HO_5.out (fun k_ hk=>(⟨hk,hk.2⟩:_∧k_≠c))) (fun _ hk=>hk.2) (I L ((rd_T44 l0 a).f0))) (fun _ hk=>hk.2) (I L ((rd_T44 l0 a).f1))) (fun _ hk=>hk.2) (I L ((rd_T44 l0 a).f2.f0))) (fun _ hk=>hk.2) (I L ((rd_T44 l0 a).f2.f1))) (fun _ hk=>hk.2) (I L ((rd_T44 l0 a).f2.f2))) (fun _ hk=>hk.2) (Y n ((rd_T44 l0 a).f3).length o)) (fun _ hk=>⟨hk.1.1,hk.1.2⟩))⟩,⟨pV_ (Kd.V_mono (Kd.V_far (p:=⟨c,5,none⟩) (Kd.V_far (p:=⟨c,4,none⟩) (Kd.V_far (p:=⟨c,3,none⟩) (Kd.V_far (p:=⟨c,2,none⟩) (Kd.V_far (p:=⟨c,1,none⟩) (Kd.V_far (p:=⟨c,0,none⟩) (Kd.V_mono HO_9.out (fun k_ hk=>(⟨hk,hk.2⟩:_∧k_≠c))) (fun _ hk=>hk.2) (I L ((rd_T44 l0 a).f0))) (fun _ hk=>hk.2) (I L ((rd_T44 l0 a).f1))) (fun _ hk=>hk.2) (I L ((rd_T44 l0 a).f2.f0))) (fun _ hk=>hk.2) (I L ((rd_T44 l0 a).f2.f1))) (fun _ hk=>hk.2) (I L ((rd_T44 l0 a).f2.f2))) (fun _ hk=>hk.2) (Y n ((rd_T44 l0 a).f3).length o)) (fun _ hk=>⟨hk.1.1.1,⟨hk.1.1.2,hk.1.2⟩⟩))⟩,⟨pV_ (Kd.V_mono (Kd.V_far (p:=⟨c,5,none⟩) (Kd.V_far (p:=⟨c,4,none⟩) (Kd.V_far (p:=⟨c,3,none⟩) (Kd.V_far (p:=⟨c,2,none⟩) (Kd.V_far (p:=⟨c,1,none⟩) (Kd.V_far (p:=⟨c,0,none⟩) (Kd.V_mono HL801_5.out (fun k_ hk=>(⟨hk,hk.2⟩:_∧k_≠c))) (fun _ hk=>hk.2) (I L ((rd_T44 l0 a).f0))) (fun _ hk=>hk.2) (I L ((rd_T44 l0 a).f1))) (fun _ hk=>hk.2) (I L ((rd_T44 l0 a).f2.f0))) (fun _ hk=>hk.2) (I L ((rd_T44 l0 a).f2.f1))) (fun _ hk=>hk.2) (I L ((rd_T44 l0 a).f2.f2))) (fun _ hk=>hk.2) (Y n ((rd_T44 l0 a).f3).length o)) (fun _ hk=>⟨hk.1.1.1,⟨hk.1.1.2,hk.1.2⟩⟩))⟩,⟨pP_ i.out⟩,⟨pB_ HB.out⟩⟩ ?_
      (try clear HO_5);(try clear HO_9);(try clear HL801_5);(try clear i);(try clear HB);rintro q ⟨HO_5,HO_9,HL801_5,i,HB⟩;have H:=U.out;clear U
      by_cases l:((rd_T44 l0 a).f0)=g
      ·rw [if_pos l] at H
       have K:(((rd_T44 l0 a).f0) == g)=true:=beq_iff_eq.mpr l;have ai:(((rd_T44 l0 a).f0) != g)=false:=bne_eq_false_iff_eq.mpr l;clear l;refine rw_ K ?_
       by_cases G:j.length < 2199023255552
       ·rw [if_pos G] at H
        have aj:=D G;clear G;obtain ⟨aa,v⟩:∃ y_:List (S44),y_=(j ++ [(⟨(rd_T44 l0 a).f0,(rd_T44 l0 a).f1,(⟨(rd_T44 l0 a).f2.f0,(rd_T44 l0 a).f2.f1,(rd_T44 l0 a).f2.f2⟩:S29),(rd_T44 l0 a).f3⟩:S44)]):=⟨_,rfl⟩
        replace H:(impl_dealsOf.l0 J g aa l0 (l0.length:Int) (wrap64 (a+1)))=some r:=by first|(rw [v];with_reducible exact H)|(have H2_:=(Option.bind_some _ _).symm.trans H;rw [v];with_reducible exact H2_)|(have H2_:=(Option.bind_some _ _).symm.trans H;with_reducible exact H2_)|with_reducible exact H|(rw [v];exact H)|exact H
        have ak:=D v;clear v;have H':=D H;clear H;have aE:=cells6 i.out
        go_wp2_with (first|((with_reducible refine gate_builtin (b:=.append) (xs:=#[.tmp 19,.tmp 21]) rfl ?_);at_builtin;refine Kd.N_append k44 (w0:=w) w.heap.size rfl (.tmp 19) (.tmp 21) 24 44 (.agg #[(I L 0),(I L 0),(I L 0),(I L 0),(I L 0),(Y none 0 0)]) 64 rfl Try.underlying24 info44 rfl (by decide) (by omega) u5 j (⟨(rd_T44 l0 a).f0,(rd_T44 l0 a).f1,(⟨(rd_T44 l0 a).f2.f0,(rd_T44 l0 a).f2.f1,(rd_T44 l0 a).f2.f2⟩:S29),(rd_T44 l0 a).f3⟩:S44) [I L ((rd_T44 l0 a).f0),I L ((rd_T44 l0 a).f1),I L ((rd_T44 l0 a).f2.f0),I L ((rd_T44 l0 a).f2.f1),I L ((rd_T44 l0 a).f2.f2),Y n ((rd_T44 l0 a).f3).length o] (fun k_=>(d k_∨w.heap.size≤k_)∧k_≠c) (fun k_=>((fun k_=>(d k_∨w.heap.size≤k_)∧k_≠c)) k_∧some k_≠(u5:Value).ownBlock) rfl rfl ?aP (fun _ hk=>hk) ?aF ?aO ?aB ?aS ?aL ?_;(case aP=>exact (k44_mkF _ _ (⟨(rd_T44 l0 a).f0,(rd_T44 l0 a).f1,(⟨(rd_T44 l0 a).f2.f0,(rd_T44 l0 a).f2.f1,(rd_T44 l0 a).f2.f2⟩:S29),(rd_T44 l0 a).f3⟩:S44) (Kd.V_reads' (Kd.V_mono (ok':=(fun k_=>((fun k_=>(d k_∨w.heap.size≤k_)∧k_≠c)) k_∧some k_≠(u5:Value).ownBlock)) (HL801_5.out) (fun k_ hk=>⟨⟨hk.1,hk.2.2⟩,hk.2.1⟩))).2.1 (by (with_reducible repeat (first|apply Kd.F_alloc|apply Kd.F_drewN|apply Kd.F_drew));exact Kd.V_F (Kd.V_mono (ok':=(fun k_=>((fun k_=>(d k_∨w.heap.size≤k_)∧k_≠c)) k_∧some k_≠(u5:Value).ownBlock)) (HL801_5.out) (fun k_ hk=>⟨⟨hk.1,hk.2.2⟩,hk.2.1⟩)))));(case aB=>exact (pB_ HB.out));(case aF=>exact (fun k_ hk=>⟨(.inr (Nat.le_trans (below_size (pB_ HB.out)) hk)),Kd.freshB (pk_ i.out) k_ hk⟩));(case aO=>exact (pN_ HO_5.out));(case aS=>exact (below_size (pB_ HB.out)));(case aL=>have:=aj.out;omega);intro aG aH ho hb hg hat;rw [← ak.out] at ho;have n_:=an_ (Kd.V_afterv (ok:=(fun k_=>(d k_∨w.heap.size≤k_)∧k_≠c)) (pV_ (Kd.V_mono HO_9.out (fun _ hk=>⟨⟨hk.1,hk.2.2⟩,hk.2.1⟩))) hg hat)<|an_ (Kd.V_afterv (ok:=(fun k_=>(d k_∨w.heap.size≤k_)∧k_≠c)) (pV_ (Kd.V_mono HL801_5.out (fun _ hk=>⟨⟨hk.1,hk.2.2⟩,hk.2.1⟩))) hg hat)<|an_ (blk_grown (pk_ i.out) hg (Kd.N_away HO_5.out (fun _ hk=>hk.2)))<|an_ (hb)<|D (ho);clear HO_9 HL801_5 i HB HO_5;obtain ⟨HO_9,HL801_5,i,HB,al⟩:=n_;clear ho hb hg hat))
        go_roundg J
        case measure=>have:=z.out;omega
        case rel=>exact ⟨(aa),(wrap64 (a+1)),Z69,H',⟨by have:=z.out;omega⟩,⟨pN_ (Kd.N_mono al.out (fun _ hk=>hk.1))⟩,⟨pV_ (Kd.V_mono HO_9.out (fun _ hk=>⟨hk.1.1,hk.2⟩))⟩,⟨pB_ HB.out⟩⟩
       ·rw [if_neg G] at H
        exact absurd H (by simp)
      ·rw [if_neg l] at H
       have K:(((rd_T44 l0 a).f0) == g)=false:=beq_eq_false_iff_ne.mpr l;have ai:(((rd_T44 l0 a).f0) != g)=true:=bne_iff_ne.mpr l;refine rw_ K ?_;have H':=D H;clear H
       go_wp2
       go_roundg J
       case measure=>have:=z.out;omega
       case rel=>exact ⟨(j),(wrap64 (a+1)),Z69,H',⟨by have:=z.out;omega⟩,⟨pN_ (Kd.N_mono HO_5.out (fun _ hk=>hk.1))⟩,⟨pV_ (Kd.V_mono HO_9.out (fun _ hk=>⟨hk.1,hk.2.1⟩))⟩,⟨pB_ HB.out⟩⟩
     ·rw [if_neg c7] at H
      exact absurd H (by simp)
    ·rw [if_neg c6] at H
     exact absurd H (by simp)
   ·rw [if_neg c5] at H
    have ae:decide (a < (l0.length:Int))=false:=decide_eq_false c5;clear c5;obtain rfl:=Option.some.inj H
    go_wp2
    go_ret;exact ⟨_,er_,by (with_reducible repeat (first|apply Kd.N_alloc|apply Kd.N_drewN|apply Kd.N_drew));exact HO_5.out,pB_ HB.out⟩
def impl_Taken.f (k:Nat) (l0:List (S44)) (b c d:Int):Option (Int×Int×Int):=(impl_span.f k l0 c d).bind fun e=>((impl_dealsOf.f k e.1 b).bind fun g=>((impl_taken.f k g).bind fun a=>(some (a.1,a.2.1,a.2.2))))
theorem impl_Taken.calls (k:Nat) (n:Option Addr) (o:Nat) (l0:List (S44)) (i j l p q r:Int) (w:World) (v:Kd.C k44 w n l0.length l0) (x:l0.length≤o) (h:impl_Taken.f k l0 i j l=some (p,q,r)) :
  Calls Try.prog 7 #[Y n l0.length o,I L i,I L j,I L l] w fun e w'=>e=.returned (.agg #[I L p,I L q,I L r])∧Below w.heap.size w w':=by
 have hu29:=Try.underlying29
 have J:=D v
 have K:=D x
 clear v x
 have HB:=D (Below.refl w.heap.size w)
 have H:((impl_span.f k l0 j l).bind fun M=>((impl_dealsOf.f k M.1 i).bind fun m=>((impl_taken.f k m).bind fun s=>(some (s.1,s.2.1,s.2.2)))))=some (p,q,r):=h
 clear h
 obtain ⟨⟨u,O⟩,y,H⟩:=bs_.mp H
 (try dsimp only at H)
 have P:=D y
 clear y
 obtain ⟨m,z,H⟩:=bs_.mp H
 (try dsimp only at H)
 have T:=D z
 clear z
 obtain ⟨⟨A,B,E⟩,G,H⟩:=bs_.mp H
 (try dsimp only at H)
 have U:=D G
 clear G
 simp only [Option.some.injEq,Prod.mk.injEq] at H
 obtain ⟨rfl,rfl,rfl⟩:=H
 go_enter Try.func7,Try.ntmps7
 go_wp2_with (first|((with_reducible refine gate_dst (N:=8) rfl ?_);refine bx_ (N:=8) (cs:=#[I L 0,I L 0,I L 0]) (t:=29) ?_;intro c hg w8 hbox hb;have n_:=an_ (below_step (pB_ HB.out) hb)<|an_ (hbox)<|an_ (bg_ hg (pB_ HB.out):w.heap.size≤c)<|D (bg_ hg (pB_ HB.out):w.heap.size≤c);clear HB;obtain ⟨HB,a,W,ab⟩:=n_;clear hb hbox hg)|((with_reducible refine gate_callee (f:=22) rfl ?_);refine goesL_ (some 15) rfl rfl Try.func22 (by kernel_rfl) rfl #[Y n l0.length o,I L j,I L l] rfl Z20 ?_;(with_reducible refine (impl_span.calls k (fun k_=>k_ < w.heap.size) _ _ l0 j l u O _ ?side1 P.out).mono ?_);(case side1=>exact Kd.V_mk K.out (Kd.F_below (Kd.C_F k44_heap J.out) (pB_ HB.out)));rintro e w9 ⟨ad,rfl,d,hb⟩;refine ⟨_,rfl,?_⟩;have n_:=an_ (Kd.V_lower (Kd.V_mono (ok':=fun k_=>k_≠c) d (fun k_ hk_=>Or.elim hk_ (fun hs_=>fun e_=>Nat.not_le.2 hs_ (by rw [e_];exact W.out)) (fun hn_=>(Kd.freshB (pk_ a.out) k_ hn_)))) (below_size (pB_ HB.out)))<|an_ (blk_below (pk_ a.out) hb)<|D (below_step (pB_ HB.out) hb);clear a HB;obtain ⟨b,a,HB⟩:=n_;(try clear hb);(try clear d);obtain ⟨Ao10,co10,X⟩:=Kd.V_slice b.out;subst X)|((with_reducible refine gate_callee (f:=24) rfl ?_);refine goesL_ (some 20) rfl rfl Try.func24 (by kernel_rfl) rfl #[Y Ao10 u.length co10,I L i] rfl Z20 ?_;(with_reducible refine (impl_dealsOf.calls k (fun k_=>k_≠c) _ _ u i m _ ?side1 T.out).mono ?_);(case side1=>exact b.out);rintro e ae ⟨af,rfl,d,hb⟩;refine ⟨_,rfl,?_⟩;have n_:=an_ (Kd.V_elder' (pV_ b.out) (Kd.N_base d) hb)<|an_ (Kd.N_lower (Kd.N_mono (ok':=fun k_=>k_≠c) d (fun k_ hk_=>Or.elim hk_ (fun hs_=>hs_) (fun hn_=>(Kd.freshB (pk_ a.out) k_ hn_)))) (below_size (pB_ HB.out)))<|an_ (blk_below (pk_ a.out) hb)<|D (below_step (pB_ HB.out) hb);clear b a HB;obtain ⟨b,g,a,HB⟩:=n_;(try clear hb);(try clear d);obtain ⟨Ao12,co12,Z⟩:=Kd.N_slice g.out;subst Z)|((with_reducible refine gate_callee (f:=23) rfl ?_);refine goesL_ (some 21) rfl rfl Try.func23 (by kernel_rfl) rfl #[Y Ao12 m.length co12] rfl Z20 ?_;(with_reducible refine (impl_taken.calls k _ _ m A B E _ ?side1 ?side2 U.out).mono ?_);(case side1=>exact pC_ ((Kd.N_reads' g.out).2.2));(case side2=>exact (Kd.N_reads' g.out).2.1);rintro e ag ⟨rfl,hb⟩;refine ⟨_,rfl,?_⟩;have n_:=an_ (Kd.V_below (pV_ b.out) hb)<|an_ (Kd.N_below (pN_ g.out) hb)<|an_ (blk_below (pk_ a.out) hb)<|D (below_step (pB_ HB.out) hb);clear b g a HB;obtain ⟨b,g,a,HB⟩:=n_;(try clear hb);have ah:=cells3 a.out))
 refine bodyPost_ret (results_cell_row rfl _ _ c 29 #[I L A,I L B,I L E] (0,0) _ rfl (by exact pP_ a.out) Try.underlying29 rfl (by kernel_rfl)) rfl ?_
 exact ⟨er_,pB_ HB.out⟩
def impl_VecTop.f (a b c:Int):Option (Int):=some (mx (mx a b) c)
theorem impl_VecTop.calls (b c a r:Int) (w:World) (h:impl_VecTop.f b c a=some r) :
  Calls Try.prog 25 #[.agg #[I L b,I L c,I L a]] w fun e w'=>e=.returned (I L r)∧Below w.heap.size w w':=by
 have hu29:=Try.underlying29
 have HB:=D (Below.refl w.heap.size w)
 have H:(some (mx (mx b c) a))=some r:=h
 clear h
 obtain ⟨d,hji2⟩:∃ j_:Int,(mx b c)=j_:=⟨_,rfl⟩
 replace H:(some (mx (d) a))=some r:=by first | (rw [hji2] at H;exact H) | (simp only [hji2] at H ⊢;exact H)
 have hji2_:(if b < c then c else b)=d:=hji2
 obtain ⟨g,hji3⟩:∃ j_:Int,(mx (d) a)=j_:=⟨_,rfl⟩
 replace H:(some g)=some r:=by first | (rw [hji3] at H;exact H) | (simp only [hji3] at H ⊢;exact H)
 have hji3_:(if (d) < a then a else (d))=g:=hji3
 obtain rfl:=Option.some.inj H
 go_enter Try.func25,Try.ntmps25
 go_wp2_with (first|((with_reducible refine gate_dst (N:=1) rfl ?_);refine bx_ (N:=1) (cs:=#[I L b,I L c,I L a]) (t:=29) ?_;intro i hg k hbox hb;have n_:=an_ (below_step (pB_ HB.out) hb)<|an_ (hbox)<|an_ (bg_ hg (pB_ HB.out):w.heap.size≤i)<|D (bg_ hg (pB_ HB.out):w.heap.size≤i);clear HB;obtain ⟨HB,j,l,m⟩:=n_;clear hb hbox hg;have n:=cells3 j.out))
 go_ret
 exact ⟨by first|rfl|(simp [errW_none,errW_some] <;> rfl)|(simp only [← hji2,← hji3];first|rfl|(simp [errW_none,errW_some] <;> rfl))|(simp [*,errW_none,errW_some] <;> rfl),pB_ HB.out⟩
def impl_Tops.l0:Nat→Int→List (S44)→Int→Int→Option (Int)
 | 0,_,_,_,_=>none
 | k+1,c,b,d,a=>if a < d then (if 0≤a then (if a < (b.length:Int) then ((impl_VecTop.f ((rd_T44 b a).f2.f0) ((rd_T44 b a).f2.f1) ((rd_T44 b a).f2.f2)).bind fun e=>(impl_Tops.l0 k (wrap64 (c+e)) b d (wrap64 (a+1)))) else (none)) else (none)) else (some c)
def impl_Tops.f (k:Nat) (l0:List (S44)) (c d e:Int):Option (Int):=(impl_span.f k l0 d e).bind fun a=>(if a.2=true then ((impl_dealsOf.f k a.1 c).bind fun b=>(impl_Tops.l0 k 0 b (b.length:Int) 0)) else (some (-1)))
theorem impl_Tops.calls (k:Nat) (E:Option Addr) (G:Nat) (l0:List (S44)) (l m n r:Int) (w:World) (M:Kd.C k44 w E l0.length l0) (O:l0.length≤G) (h:impl_Tops.f k l0 l m n=some r) :
  Calls Try.prog 8 #[Y E l0.length G,I L l,I L m,I L n] w fun e w'=>e=.returned (I L r)∧Below w.heap.size w w':=by
 have hu44:=Try.underlying44
 have hu29:=Try.underlying29
 have ag:=D M
 have ah:=D O
 clear M O
 have HB:=D (Below.refl w.heap.size w)
 have H:((impl_span.f k l0 m n).bind fun P=>(if P.2=true then ((impl_dealsOf.f k P.1 l).bind fun b=>(impl_Tops.l0 k 0 b (b.length:Int) 0)) else (some (-1))))=some r:=h
 clear h
 obtain ⟨⟨J,T⟩,U,H⟩:=bs_.mp H
 (try dsimp only at H)
 have A5:=D U
 clear U
 have W:=D H
 clear H
 go_enter Try.func8,Try.ntmps8
 go_upto_if 22 with (first|((with_reducible refine gate_callee (f:=22) rfl ?_);refine goesL_ (some 18) rfl rfl Try.func22 (by kernel_rfl) rfl #[Y E l0.length G,I L m,I L n] rfl Z20 ?_;(with_reducible refine (impl_span.calls k (fun k_=>k_ < w.heap.size) _ _ l0 m n J T _ ?side1 A5.out).mono ?_);(case side1=>exact Kd.V_mk ah.out (Kd.F_below (Kd.C_F k44_heap ag.out) (pB_ HB.out)));rintro e w7 ⟨av,rfl,d,hb⟩;refine ⟨_,rfl,?_⟩;have n_:=an_ (Kd.V_lower (Kd.V_mono (ok':=fun k_=>True) d (fun k_ hk_=>trivial)) (below_size (pB_ HB.out)))<|D (below_step (pB_ HB.out) hb);clear HB;obtain ⟨q,HB⟩:=n_;(try clear hb);(try clear d)))
 have H:=W.out
 clear W
 by_cases c8:T=true
 ·subst c8
  rw [if_pos rfl] at H;obtain ⟨b,X,H⟩:=bs_.mp H;(try dsimp only at H);have A9:=D X;clear X;have H':=D H;clear H;obtain ⟨Ao10,co10,ak⟩:=Kd.V_slice q.out;subst ak
  go_wp2_with (first|((with_reducible refine gate_callee (f:=24) rfl ?_);refine goesL_ (some 25) rfl rfl Try.func24 (by kernel_rfl) rfl #[Y Ao10 J.length co10,I L l] rfl Z20 ?_;(with_reducible refine (impl_dealsOf.calls k (fun k_=>True) _ _ J l b _ ?side1 A9.out).mono ?_);(case side1=>exact q.out);rintro e aw ⟨ax,rfl,d,hb⟩;refine ⟨_,rfl,?_⟩;have n_:=an_ (Kd.V_elder' (pV_ q.out) (Kd.N_base d) hb)<|an_ (Kd.N_lower (Kd.N_mono (ok':=fun k_=>True) d (fun k_ hk_=>trivial)) (below_size (pB_ HB.out)))<|D (below_step (pB_ HB.out) hb);clear q HB;obtain ⟨q,Z,HB⟩:=n_;(try clear hb);(try clear d);obtain ⟨Ao12,co12,al⟩:=Kd.N_slice Z.out;subst al))
  go_loopg [11,27] k (fun kq am an w'=>∃ (s:Int) (a:Int),am=I L s∧an=I L a∧Aside0 (impl_Tops.l0 kq s b (b.length:Int) a=some r)∧Aside0 (kq≤k)∧Aside0 (Kd.N k44 44 w' w.heap.size (fun _=>True) (Y Ao12 b.length co12) b)∧Aside0 (Below w.heap.size w w'))
  case atStart=>exact ⟨(0),(0),Z69,Z69,H',⟨Nat.le_refl _⟩,⟨pN_ Z.out⟩,⟨pB_ HB.out⟩⟩
  case round =>
   clear H'
   (try clear c2);(try clear p2);(try clear c8)
   obtain ⟨s,a,rfl,rfl,HA,aa,HO_25,HB⟩:=hrel
   cases gk with
   | zero=>exact absurd HA.out (by simp [impl_Tops.l0])
   | succ k1 =>
    have H:=HA.out;clear HA;simp only [impl_Tops.l0] at H
    by_cases i:a < (b.length:Int)
    ·rw [if_pos i] at H
     have K:decide (a < (b.length:Int))=true:=decide_eq_true i;clear i;refine rw_ K ?_
     by_cases u:0≤a
     ·rw [if_pos u] at H
      have az:decide (0≤a)=true:=decide_eq_true u;clear u
      by_cases v:a < (b.length:Int)
      ·rw [if_pos v] at H
       have aA:decide (a < (b.length:Int))=true:=decide_eq_true v;clear v;obtain ⟨ab,ac,H⟩:=bs_.mp H;(try dsimp only at H);have ap:=D ac;clear ac;have H':=D H;clear H;have x:0≤(a:Int):=od_ Z68;have y:a < (b.length:Int):=od_ Z68;obtain ⟨aB,z,A,aq,aC,aD,aE,aF,aG,ar,ad,ae⟩:=at_T44 (Kd.N_reads' HO_25.out).2.2 a x y;cases aq;obtain ⟨ce825,hce825,hMe825,af⟩:=Kd.N_get HO_25.out z44 a x (by first|exact y|exact od_ Z68|(have e_:=(Kd.N_reads' HO_25.out).1;omega));obtain ⟨ua825_5,uc825_5,rfl,ul825_5,ge825_5⟩:=k44_openF hMe825;have hv825_5:=af 5 _ rfl;rw [add_field _ _ 5 (by omega)] at hv825_5;replace hv825_5:=Option.some.inj (hv825_5.symm.trans ar)
       injection hv825_5 with hva_ hvn_ hvc_
       rw [hva_] at ge825_5;rw [hvc_] at ul825_5;have HL825_5:=D (show Kd.V (Kd.int .i64) 3 _ w.heap.size _ _ ((rd_T44 b a).f3) from Kd.V_mk ul825_5 ge825_5);clear hva_ hvn_ hvc_ ge825_5 ul825_5;clear af hce825;have j:=D ae;have aH:=D ad;clear ae ad;replace x:=eq_true x;replace y:=eq_true y
       go_wp2_with (first|((with_reducible refine gate_dst (N:=13) rfl ?_);refine bx_ (N:=13) (cs:=#[I L 0,I L 0,I L 0,I L 0,I L 0,Y none 0 0]) (t:=44) ?_;intro c hg aI hbox hb;have n_:=an_ (Kd.N_below (Kd.N_elderB (pN_ HO_25.out) c (Nat.le_of_eq hg.symm)) hb)<|an_ (Kd.V_below (Kd.V_elderB (pV_ HL825_5.out) c (Nat.le_of_eq hg.symm)) hb)<|an_ (Kd.C_below (by repeat (first|(with_reducible exact j.out)|(with_reducible refine Kd.C_alloc ?_ _)|(with_reducible refine Kd.C_drewN ?_ _)|(with_reducible refine Kd.C_drew ?_)|exact j.out)) hb)<|an_ (below_step (pB_ HB.out) hb)<|an_ (hbox)<|an_ (bg_ hg (pB_ HB.out):w.heap.size≤c)<|D (bg_ hg (pB_ HB.out):w.heap.size≤c);clear HO_25 HL825_5 j HB;obtain ⟨HO_25,HL825_5,j,HB,B,aJ,aK⟩:=n_;clear hb hbox hg;have aL:=cells6 B.out)|((with_reducible refine gate_callee (f:=25) rfl ?_);refine goesL_ (some 34) rfl rfl Try.func25 (by kernel_rfl) rfl #[.agg #[I L ((rd_T44 b a).f2.f0),I L ((rd_T44 b a).f2.f1),I L ((rd_T44 b a).f2.f2)]] rfl Z20 ?_;(with_reducible refine (impl_VecTop.calls ((rd_T44 b a).f2.f0) ((rd_T44 b a).f2.f1) ((rd_T44 b a).f2.f2) ab _ ap.out).mono ?_);rintro e aM ⟨rfl,hb⟩;refine ⟨_,rfl,?_⟩;have n_:=an_ (Kd.N_below (pN_ (Kd.N_mono (Kd.N_far (p:=⟨c,5,none⟩) (Kd.N_far (p:=⟨c,4,none⟩) (Kd.N_far (p:=⟨c,3,none⟩) (Kd.N_far (p:=⟨c,2,none⟩) (Kd.N_far (p:=⟨c,1,none⟩) (Kd.N_far (p:=⟨c,0,none⟩) (Kd.N_mono HO_25.out (fun k_ hk=>(⟨hk,hk.2⟩:_∧k_≠c))) (fun _ hk=>hk.2) (I L ((rd_T44 b a).f0))) (fun _ hk=>hk.2) (I L ((rd_T44 b a).f1))) (fun _ hk=>hk.2) (I L ((rd_T44 b a).f2.f0))) (fun _ hk=>hk.2) (I L ((rd_T44 b a).f2.f1))) (fun _ hk=>hk.2) (I L ((rd_T44 b a).f2.f2))) (fun _ hk=>hk.2) (Y z ((rd_T44 b a).f3).length A)) (fun _ h_=>h_.1))) hb)<|an_ (Kd.V_below (pV_ (Kd.V_mono (Kd.V_far (p:=⟨c,5,none⟩) (Kd.V_far (p:=⟨c,4,none⟩) (Kd.V_far (p:=⟨c,3,none⟩) (Kd.V_far (p:=⟨c,2,none⟩) (Kd.V_far (p:=⟨c,1,none⟩) (Kd.V_far (p:=⟨c,0,none⟩) (Kd.V_mono HL825_5.out (fun k_ hk=>(⟨hk,hk.2⟩:_∧k_≠c))) (fun _ hk=>hk.2) (I L ((rd_T44 b a).f0))) (fun _ hk=>hk.2) (I L ((rd_T44 b a).f1))) (fun _ hk=>hk.2) (I L ((rd_T44 b a).f2.f0))) (fun _ hk=>hk.2) (I L ((rd_T44 b a).f2.f1))) (fun _ hk=>hk.2) (I L ((rd_T44 b a).f2.f2))) (fun _ hk=>hk.2) (Y z ((rd_T44 b a).f3).length A)) (fun _ h_=>h_.1))) hb)<|an_ (Kd.C_below ((Kd.V_reads' (pV_ (Kd.V_mono (Kd.V_far (p:=⟨c,5,none⟩) (Kd.V_far (p:=⟨c,4,none⟩) (Kd.V_far (p:=⟨c,3,none⟩) (Kd.V_far (p:=⟨c,2,none⟩) (Kd.V_far (p:=⟨c,1,none⟩) (Kd.V_far (p:=⟨c,0,none⟩) (Kd.V_mono HL825_5.out (fun k_ hk=>(⟨hk,hk.2⟩:_∧k_≠c))) (fun _ hk=>hk.2) (I L ((rd_T44 b a).f0))) (fun _ hk=>hk.2) (I L ((rd_T44 b a).f1))) (fun _ hk=>hk.2) (I L ((rd_T44 b a).f2.f0))) (fun _ hk=>hk.2) (I L ((rd_T44 b a).f2.f1))) (fun _ hk=>hk.2) (I L ((rd_T44 b a).f2.f2))) (fun _ hk=>hk.2) (Y z ((rd_T44 b a).f3).length A)) (fun _ h_=>h_.1)))).2.2) hb)<|an_ (blk_below (g:=c) (o:=.cells #[I L ((rd_T44 b a).f0),I L ((rd_T44 b a).f1),I L ((rd_T44 b a).f2.f0),I L ((rd_T44 b a).f2.f1),I L ((rd_T44 b a).f2.f2),Y z ((rd_T44 b a).f3).length A] 44 (0,0)) (by exact pP_ B.out) hb)<|D (below_step (pB_ HB.out) hb);clear HO_25 HL825_5 j B HB;obtain ⟨HO_25,HL825_5,j,B,HB⟩:=n_;(try clear hb);(try clear hk)))
       go_roundg k1
       case measure=>have:=aa.out;omega
       case rel=>exact ⟨(wrap64 (s+ab)),(wrap64 (a+1)),Z69,Z69,H',⟨by have:=aa.out;omega⟩,⟨pN_ (Kd.N_mono HO_25.out (fun _ hk=>trivial))⟩,⟨pB_ HB.out⟩⟩
      ·rw [if_neg v] at H
       exact absurd H (by simp)
     ·rw [if_neg u] at H
      exact absurd H (by simp)
    ·rw [if_neg i] at H
     have K:decide (a < (b.length:Int))=false:=decide_eq_false i;clear i;refine rw_ K ?_;obtain rfl:=Option.some.inj H
     go_wp2
     go_ret;exact ⟨er_,pB_ HB.out⟩
 ·replace c8:=Bool.eq_false_iff.mpr c8
  subst c8;rw [if_neg (show ¬ (false=true) by decide)] at H;obtain rfl:=Option.some.inj H
  go_wp2
  go_ret;exact ⟨er_,pB_ HB.out⟩
mutual
def laws_pick.j0:Nat→List Int→Int→Int→Bool→Option (Int)
 | 0,_,_,_,_=>none
 | k+1,a,b,c,g=>if g=true then (some 0) else (laws_pick.l0 k a b c 0 0)
def laws_pick.l0:Nat→List Int→Int→Int→Int→Int→Option (Int)
 | 0,_,_,_,_,_=>none
 | k+1,a,b,c,e,d=>if d < 3 then (if (a.length:Int)=0 then (none) else (if 0≤(Int.tmod (wrap64 (b+d)) (a.length:Int)) then (if (Int.tmod (wrap64 (b+d)) (a.length:Int)) < (a.length:Int) then (laws_pick.l0 k a b c (wrap64 ((wrap64 (31 * e))+(wrap64 (rd a (Int.tmod (wrap64 (b+d)) (a.length:Int)))))) (wrap64 (d+1))) else (none)) else (none))) else (if c=0 then (none) else (some (Int.tmod (wrap64 (e+b)) c)))
end
def laws_pick.f (k:Nat) (l0:List Int) (b a:Int):Option (Int):=if (l0.length:Int)=0 then (laws_pick.j0 k l0 b a true) else (laws_pick.j0 k l0 b a (decide (a < 2)))
theorem laws_pick.calls (k:Nat) (s:Option Addr) (t:Nat) (l0:List Int) (d a r:Int) (w:World) (u:Kd.C (Kd.int .u8) w s l0.length l0) (v:l0.length≤t) (h:laws_pick.f k l0 d a=some r) :
  Calls Try.prog 9 #[Y s l0.length t,I L d,I L a] w fun e w'=>e=.returned (I L r)∧Drawn0 w w':=by
 have E:=D u
 have P:=D v
 clear u v
 have H:(if (l0.length:Int)=0 then (laws_pick.j0 k l0 d a true) else (laws_pick.j0 k l0 d a (decide (a < 2))))=some r:=h
 clear h
 have n:=D H
 clear H
 go_enter Try.func9,Try.ntmps9
 go_upto_region 1 with (fail)
 go_cut [15] (fun G wc=>∃ (kq:Nat) (j:Bool),G=.bool j∧Aside0 (laws_pick.j0 kq l0 d a j=some r)∧Aside0 (kq≤k)∧Drawn0 w wc)
 case first =>
  have H:=n.out;clear n
  by_cases c5:(l0.length:Int)=0
  ·rw [if_pos c5] at H
   have g:((l0.length:Int) == 0)=true:=beq_iff_eq.mpr c5;have o:((l0.length:Int) != 0)=false:=bne_eq_false_iff_eq.mpr c5;clear c5;refine rw_ g ?_;have H':=D H;clear H
   go_wp2
   go_meet
   case rel=>exact ⟨_,(true),Z69,H',⟨by first | omega | exact Nat.le_refl _⟩,by repeat (first | exact Drawn0.refl _ | apply Drawn0.step)⟩
  ·rw [if_neg c5] at H
   have g:((l0.length:Int) == 0)=false:=beq_eq_false_iff_ne.mpr c5;have o:((l0.length:Int) != 0)=true:=bne_iff_ne.mpr c5
   have x:¬ (l0=[]):=fun h_=>c5 (by rw [h_];rfl)
   refine rw_ g ?_;have H':=D H;clear H
   go_wp2
   go_meet
   case rel=>exact ⟨_,(decide (a < 2)),Z69,H',⟨by first | omega | exact Nat.le_refl _⟩,by repeat (first | exact Drawn0.refl _ | apply Drawn0.step)⟩
 case rest =>
  clear n
  (try clear y);(try clear c5);(try clear g);(try clear o);(try clear x)
  obtain ⟨kq,j,rfl,HA,z,⟨mc3,rfl⟩⟩:=hcut
  cases kq with
  | zero=>exact absurd HA.out (by simp [laws_pick.j0])
  | succ kj3 =>
   have H:=HA.out;clear HA;simp only [laws_pick.j0] at H
   by_cases c6:j=true
   ·subst c6
    rw [if_pos rfl] at H;obtain rfl:=Option.some.inj H
    go_wp2
    go_ret;exact ⟨by first | rfl | (simp;done) | (simp [*];done),by repeat (first | exact Drawn0.refl _ | apply Drawn0.step)⟩
   ·replace c6:=Bool.eq_false_iff.mpr c6
    subst c6;rw [if_neg (show ¬ (false=true) by decide)] at H;have H':=D H;clear H
    go_wp2
    go_loopg [7,8] kj3 (fun kq J K w'=>∃ (i:Int) (c:Int),J=I L i∧K=I L c∧Aside0 (laws_pick.l0 kq l0 d a i c=some r)∧Aside0 (kq≤kj3)∧Drawn0 w w')
    case atStart=>exact ⟨(0),(0),Z69,Z69,H',⟨Nat.le_refl _⟩,by repeat (first | exact Drawn0.refl _ | apply Drawn0.step)⟩
    case round =>
     clear H'
     (try clear y);(try clear c3);(try clear c5);(try clear g);(try clear o);(try clear x);(try clear c6);(try clear y)
     obtain ⟨i,c,rfl,rfl,HA,A,⟨T,rfl⟩⟩:=hrel
     cases gk with
     | zero=>exact absurd HA.out (by simp [laws_pick.l0])
     | succ B =>
      have H:=HA.out;clear HA;simp only [laws_pick.l0] at H
      by_cases c7:c < 3
      ·rw [if_pos c7] at H
       have M:decide (c < 3)=true:=decide_eq_true c7;clear c7
       by_cases c8:(l0.length:Int)=0
       ·rw [if_pos c8] at H
        exact absurd H (by simp)
       ·rw [if_neg c8] at H
        have U:((l0.length:Int) == 0)=false:=beq_eq_false_iff_ne.mpr c8;have W:((l0.length:Int) != 0)=true:=bne_iff_ne.mpr c8
        have X:¬ (l0=[]):=fun h_=>c8 (by rw [h_];rfl)
        obtain ⟨b,hji9⟩:∃ j_:Int,(Int.tmod (wrap64 (d+c)) (l0.length:Int))=j_:=⟨_,rfl⟩
        replace H:(if 0≤(b) then (if (b) < (l0.length:Int) then (laws_pick.l0 B l0 d a (wrap64 ((wrap64 (31 * i))+(wrap64 (rd l0 (b))))) (wrap64 (c+1))) else (none)) else (none))=some r:=by first|(rw [hji9] at H;exact H)|(simp only [hji9] at H ⊢;exact H)
        by_cases c10:0≤(b)
        ·rw [if_pos c10] at H
         have Z:decide (0≤(b))=true:=decide_eq_true c10;clear c10
         by_cases l:(b) < (l0.length:Int)
         ·rw [if_pos l] at H
          have aa:decide ((b) < (l0.length:Int))=true:=decide_eq_true l;clear l;have H':=D H;clear H;have p:0≤((b):Int):=od_ Z68;have q:(b) < (l0.length:Int):=od_ Z68;obtain ⟨ab,O,ac⟩:=Kd.at_int E.out (b) p q;cases O;replace p:=eq_true p;replace q:=eq_true q
          go_wp2
          go_roundg B
          case measure=>have:=z.out;have:=A.out;omega
          case rel=>exact ⟨(wrap64 ((wrap64 (31 * i))+(wrap64 (rd l0 (b))))),(wrap64 (c+1)),(by first|rfl|(simp;done)|(simp only [← hji9] <;> (first|rfl|simp))|(simp [*];done)),Z69,H',⟨by have:=z.out;have:=A.out;omega⟩,by repeat (first|exact Drawn0.refl _|apply Drawn0.step)⟩
         ·rw [if_neg l] at H
          exact absurd H (by simp)
        ·rw [if_neg c10] at H
         exact absurd H (by simp)
      ·rw [if_neg c7] at H
       have M:decide (c < 3)=false:=decide_eq_false c7;clear c7
       by_cases m:a=0
       ·rw [if_pos m] at H
        exact absurd H (by simp)
       ·rw [if_neg m] at H
        have ad:(a == 0)=false:=beq_eq_false_iff_ne.mpr m;have ae:(a != 0)=true:=bne_iff_ne.mpr m;obtain rfl:=Option.some.inj H
        go_wp2
        go_ret;exact ⟨by first | rfl | (simp;done) | (simp [*];done),by repeat (first | exact Drawn0.refl _ | apply Drawn0.step)⟩
def impl_Vec_on.f (b c d a:Int):Option (Int):=if 0≤a then (if a < 3 then (some (ar3 b c d a)) else (none)) else (none)
theorem impl_Vec_on.calls (b c d a r:Int) (w:World) (h:impl_Vec_on.f b c d a=some r) :
  Calls Try.prog 45 #[.agg #[I L b,I L c,I L d],I L a] w fun e w'=>e=.returned (I L r)∧Below w.heap.size w w':=by
 have hu29:=Try.underlying29
 have hu91:=Try.underlying91
 have hix91:∀ (g j k i:Int) (W:World),decide (0≤i)=true→decide (i < 3)=true→(Instr.index 91 (.agg #[I L g,I L j,I L k]) (I L i)).run Try.prog W=.ok (I L (ar3 g j k i)) W:=by intro g j k i W m n;rcases ar3_three m n with rfl|rfl|rfl <;> rfl
 have HB:=D (Below.refl w.heap.size w)
 have H:(if 0≤a then (if a < 3 then (some (ar3 b c d a)) else (none)) else (none))=some r:=h
 clear h
 by_cases c3:0≤a
 ·rw [if_pos c3] at H
  have p:decide (0≤a)=true:=decide_eq_true c3;clear c3
  by_cases c4:a < 3
  ·rw [if_pos c4] at H
   have q:decide (a < 3)=true:=decide_eq_true c4;clear c4;obtain rfl:=Option.some.inj H;go_enter Try.func45,Try.ntmps45
   go_wp2_with (first|((with_reducible refine gate_dst (N:=2) rfl ?_);refine bx_ (N:=2) (cs:=#[I L b,I L c,I L d]) (t:=29) ?_;intro l hg s hbox hb;have n_:=an_ (below_step (pB_ HB.out) hb)<|an_ (hbox)<|an_ (bg_ hg (pB_ HB.out):w.heap.size≤l)<|D (bg_ hg (pB_ HB.out):w.heap.size≤l);clear HB;obtain ⟨HB,o,u,v⟩:=n_;clear hb hbox hg;have x:=cells3 o.out))
   go_ret;exact ⟨er_,pB_ HB.out⟩
  ·rw [if_neg c4] at H
   exact absurd H (by simp)
 ·rw [if_neg c3] at H
  exact absurd H (by simp)
def impl_mains_1.f (h i a b c:Int) (j:List Int) (d:Int):Option (Bool):=(impl_Vec_on.f a b c d).bind fun e=>((impl_VecTop.f a b c).bind fun g=>(some (e != g)))
def impl_mains_1.T1:Bool×List (List Nat×List Nat):=(true,[([],[]),([0],[0]),([],[]),([1,2],[1,2]),([],[]),([4],[4]),([5,3],[5]),([3,6],[3,6]),([7,6,0,1,2,3,4,5,6,7],[7])])
def impl_mains_1.B1:List Nat:=[0,1,0,7,0,16,63,127,255]
theorem impl_mains_1.tab1:rtab .any (opsOf Try.f44 1)=impl_mains_1.T1:=by kernel_rfl
theorem impl_mains_1.bits1:waitsOk impl_mains_1.T1.2 impl_mains_1.B1=true:=by kernel_rfl
theorem impl_mains_1.calls (l m c d g:Int) (o:Option Addr) (p:Nat) (j:List Int) (gc1:Nat) (k:Int) (r:Bool) (w:World) (u:Kd.C (Kd.int .i64) w o j.length j) (v:j.length≤p) (hbx1:w.heap[gc1]?=some (.cells #[I L k] 3 (0,0))) (h:impl_mains_1.f l m c d g j k=some r) :
  Calls Try.prog 44 #[.agg #[I L l,I L m,I L c,I L d,I L g,Y o j.length p],.pointer (some ⟨gc1,0,none⟩)] w fun e w'=>e=.returned (.bool r)∧Below w.heap.size w w':=by
 have hu44:=Try.underlying44
 have hu29:=Try.underlying29
 have G:=D u
 have J:=D v
 clear u v
 have a:=D hbx1
 clear hbx1
 have HB:=D (Below.refl w.heap.size w)
 have H:((impl_Vec_on.f c d g k).bind fun q=>((impl_VecTop.f c d g).bind fun s=>(some (q != s))))=some r:=h
 clear h
 obtain ⟨q,x,H⟩:=bs_.mp H
 (try dsimp only at H)
 have z:=D x
 clear x
 obtain ⟨s,y,H⟩:=bs_.mp H
 (try dsimp only at H)
 have A:=D y
 clear y
 obtain rfl:=Option.some.inj H
 go_enter Try.func44,Try.ntmps44
 try go_wp2_with (first|((with_reducible refine gate_dst (N:=2) rfl ?_);refine bx_ (N:=2) (cs:=#[I L l,I L m,I L c,I L d,I L g,Y o j.length p]) (t:=44) ?_;intro i hg B hbox hb;have n_:=an_ (blk_below (pk_ a.out) hb)<|an_ (below_step (pB_ HB.out) hb)<|an_ (hbox)<|an_ (bg_ hg (pB_ HB.out):w.heap.size≤i)<|an_ (bg_ hg (pB_ HB.out):w.heap.size≤i)<|an_ (nl_ hg (pk_ a.out):gc1≠i)<|D (by rw [hg];exact Nat.ne_of_gt (blk_lt (pk_ a.out)):i≠gc1);clear a HB;obtain ⟨a,HB,b,M,O,P,T⟩:=n_;clear hb hbox hg))
 have n_:=an_ (blk_drew a.out)<|an_ (blk_drew b.out)<|D (below_drew1 HB.out)
 clear a b HB
 obtain ⟨a,b,HB⟩:=n_
 refine start_ (n:=9) (S:=fun w'=>w'.cell? ⟨i,0,none⟩=some (I L l)∧w'.cell? ⟨i,1,none⟩=some (I L m)∧w'.cell? ⟨i,2,none⟩=some (I L c)∧w'.cell? ⟨i,3,none⟩=some (I L d)∧w'.cell? ⟨i,4,none⟩=some (I L g)∧w'.cell? ⟨i,5,none⟩=some (Y o j.length p)∧w'.cell? ⟨gc1,0,none⟩=some (I L k)) (ds:=[]) (bz 9 0) (by kernel_rfl) rfl (by kernel_rfl) (bk6_ b.out (bc_ a.out 0)) (fun hHeld=>?_);refine with_tabW impl_mains_1.tab1 impl_mains_1.bits1 (fun HT_ HW_=>?_)
 generalize B.drew=U at a b HB hHeld ⊢
 refine pb_ 0 ?_
 refine pb_ 4 ?_
 refine tb_ 1 rfl rfl hHeld Z64 ?_
 refine tb_ 2 rfl rfl hHeld Z64 ?_
 refine tb_ 5 rfl rfl hHeld Z64 ?_
 refine oa_ 3 7 9 63 HT_ (fun K hK=>?_)
 refine goes_ Try.func45 (by kernel_rfl) rfl #[.agg #[I L c,I L d,I L g],I L k] (by rfl) rfl rfl Z20 ?_
 with_reducible refine (impl_Vec_on.calls c d g k q _ z.out).mono ?_
 rintro e W ⟨rfl,hb⟩
 refine ⟨_,rfl,?_⟩
 have n_:=an_ (blk_below (pk_ a.out) hb)<|an_ (blk_below (pk_ b.out) hb)<|D (below_step (pB_ HB.out) hb)
 clear a b HB
 obtain ⟨a,b,HB⟩:=n_
 (try clear hb)
 (try clear E)
 (try clear hk)
 (try clear hi)
 refine hK.out _ _ (bk6_ b.out (bc_ a.out 0)) (fun hHeld=>?_)
 clear hK K
 refine nx_ (N:=some 7) ?_
 refine oa_ 6 10 9 127 HT_ (fun K hK=>?_)
 refine goes_ Try.func25 (by kernel_rfl) rfl #[.agg #[I L c,I L d,I L g]] (by rfl) rfl rfl Z20 ?_
 with_reducible refine (impl_VecTop.calls c d g s _ A.out).mono ?_
 rintro e X ⟨rfl,hb⟩
 refine ⟨_,rfl,?_⟩
 have n_:=an_ (blk_below (pk_ a.out) hb)<|an_ (blk_below (pk_ b.out) hb)<|D (below_step (pB_ HB.out) hb)
 clear a b HB
 obtain ⟨a,b,HB⟩:=n_
 (try clear hb)
 (try clear E)
 (try clear hk)
 (try clear hi)
 refine hK.out _ _ (bk6_ b.out (bc_ a.out 0)) (fun hHeld=>?_)
 clear hK K
 refine nx_ (N:=some 10) ?_
 refine pb_ 7 ?_
 refine pb_ 8 ?_
 refine done_ (done_of HT_.out (by kernel_rfl)) ?_
 try go_wp2
 go_ret
 exact ⟨er_,pB_ HB.out⟩
def impl_mains.l0:Nat→List (S44)→List Int→Int→Option (List Int)
 | 0,_,_,_=>none
 | k+1,b,c,a=>if a < 3 then (if (b.length:Int) > 0 then ((slices_ContainsFunc_impl_Deal_impl_Deal.f k b (fun d e g h i j=>impl_mains_1.f d e g h i j a)).bind fun l=>(if l=true then (impl_mains.l0 k b c (wrap64 (a+1))) else (if c.length < 17592186044416 then (impl_mains.l0 k b (c ++ [a]) (wrap64 (a+1))) else (none)))) else (impl_mains.l0 k b c (wrap64 (a+1)))) else (some c)
def impl_mains.f (k:Nat) (l0:List (S44)):Option (List Int):=impl_mains.l0 k l0 (([]:List Int)) 0
theorem impl_mains.calls (k:Nat) (s:Option Addr) (u:Nat) (l0:List (S44)) (r:List Int) (w:World) (v:Kd.C k44 w s l0.length l0) (x:l0.length≤u) (h:impl_mains.f k l0=some r) :
  Calls Try.prog 26 #[Y s l0.length u] w fun e w'=>∃ y:Value,e=.returned (y)∧Kd.R (Kd.int .i64) 3 w' w.heap.size (fun _=>True) y r∧Below w.heap.size w w':=by
 have hmf:∀ (fn:Fn) (first cap:Array Value) (w:World),(Instr.makeFunc fn first cap).run Try.prog w=.ok (.func fn first cap) w:=fun _ _ _ _=>rfl
 have Z:=D v
 have aa:=D x
 clear v x
 have HB:=D (Below.refl w.heap.size w)
 have H:(impl_mains.l0 k l0 (([]:List Int)) 0)=some r:=h
 clear h
 obtain ⟨z,j⟩:∃ y_:List Int,y_=(([]:List Int)):=⟨_,rfl⟩
 replace H:(impl_mains.l0 k l0 z 0)=some r:=by first|(rw [j];with_reducible exact H)|(have H2_:=(Option.bind_some _ _).symm.trans H;rw [j];with_reducible exact H2_)|(have H2_:=(Option.bind_some _ _).symm.trans H;with_reducible exact H2_)|with_reducible exact H|(rw [j];exact H)|exact H
 have A:=D j
 clear j
 have H':=D H
 clear H
 go_enter Try.func26,Try.ntmps26
 go_wp2_with (first|((with_reducible refine gate_dst (N:=5) rfl ?_);refine Kd.R_lit (Kd.int .i64) _ 3 ?hg (N:=5) ?hd (xs:=([]:List Int)) (inner:=[]) (ok:=fun _=>True) (okp:=fun _=>True) ?hr ?hp (fun _ hk=>hk) trivial (Below.refl _ _) (Nat.le_refl _) (by simp) ?_;(case hd=>rfl);(case hg=>rfl);(case hr=>first|(go_simp;done)|(go_simp;rfl));(case hp=>exact (Reps.none _ _));intro ay w2 l hb hg_ hnew_;clear hg_ hnew_;(first|rw [← A.out] at l|(simp only [Int.reduceToNat] at l;rw [← A.out] at l));have n_:=an_ (Kd.R_lower l (below_size (pB_ HB.out)))<|D (below_step (pB_ HB.out) hb);clear HB;obtain ⟨ab,HB⟩:=n_;clear hb l))
 go_loopg [3,6] k (fun kq v3 v6 w'=>∃ (d:List Int) (a:Int),v6=I L a∧Aside0 (impl_mains.l0 kq l0 d a=some r)∧Aside0 (kq≤k)∧Aside0 (Kd.R (Kd.int .i64) 3 w' w.heap.size (fun _=>True) v3 d)∧Aside0 (Below w.heap.size w w'))
 case atStart=>exact ⟨(z),(0),Z69,H',⟨Nat.le_refl _⟩,⟨pR_ ab.out⟩,⟨pB_ HB.out⟩⟩
 case round =>
  clear H'
  (try clear c2);(try clear p2)
  obtain ⟨d,a,rfl,HA,i,HO_3,HB⟩:=hrel
  cases gk with
  | zero=>exact absurd HA.out (by simp [impl_mains.l0])
  | succ m =>
   have H:=HA.out;clear HA;simp only [impl_mains.l0] at H
   by_cases c4:a < 3
   ·rw [if_pos c4] at H
    have ae:decide (a < 3)=true:=decide_eq_true c4;clear c4
    by_cases c5:(l0.length:Int) > 0
    ·rw [if_pos c5] at H
     have af:decide (0 < (l0.length:Int))=true:=decide_eq_true c5;have ag:decide (0 < l0.length)=true:=decide_eq_true (by omega);clear c5;obtain ⟨B,E,H⟩:=bs_.mp H;(try dsimp only at H);have A6:=D E;clear E;have G:=D H;clear H
     go_upto_if 17 with (first|((with_reducible refine gate_dst (N:=4) rfl ?_);refine bx_ (N:=4) (cs:=#[I L 0]) (t:=3) ?_;intro c hg w8 hbox hb;have n_:=an_ (Kd.R_below (Kd.R_elderB (pR_ HO_3.out) c (Nat.le_of_eq hg.symm)) hb)<|an_ (below_step (pB_ HB.out) hb)<|an_ (hbox)<|an_ (bg_ hg (pB_ HB.out):w.heap.size≤c)<|D (bg_ hg (pB_ HB.out):w.heap.size≤c);clear HO_3 HB;obtain ⟨HO_3,HB,BK836,ai,aj⟩:=n_;clear hb hbox hg;have aD:=cells1 BK836.out)|(go_at_call 43;(with_reducible refine (slices_ContainsFunc_impl_Deal_impl_Deal.calls m _ _ l0 (fun ak al am an ao ap=>impl_mains_1.f ak al am an ao ap a) 44 #[.pointer (some ⟨c,0,none⟩)] B _ ?side1 ?side2 ?side3 ?side4 A6.out).mono ?_);(case side1=>exact Kd.C_below Z.out (pB_ HB.out));(case side2=>exact aa.out);(case side3=>exact ⟨⟨_,Try.func44,by kernel_rfl,rfl⟩⟩);(case side4=>refine ⟨?_⟩;intro J K M O P T U W aq W_ hW_ ar au h_;refine calls_of_args (args':=#[.agg #[I L J,I L K,I L M,I L O,I L P,Y T W.length U],.pointer (some ⟨c,0,none⟩)]) (by simp) ?_;refine (impl_mains_1.calls J K M O P T U W c a aq W_ ar au (blk_below (g:=c) (o:=.cells #[I L a] 3 (0,0)) Z27 hW_) h_).mono ?_;rintro e w' ⟨rfl,hd_⟩;exact ⟨rfl,hd_⟩);rintro e aE ⟨rfl,hb⟩;have n_:=an_ (Kd.R_below (rM_ (Kd.R_mono HO_3.out (fun k_ hk=>(⟨hk,hk.2⟩:_∧k_≠c))) (fun _ h_=>h_.1)) hb)<|an_ (blk_below (g:=c) (o:=.cells #[I L a] 3 (0,0)) Z27 hb)<|D (below_step (pB_ HB.out) hb);clear HO_3 BK836 HB;obtain ⟨HO_3,BK836,HB⟩:=n_;(try clear hb);(try clear hk)))
     have H:=G.out;clear G
     by_cases p:B=true
     ·subst p
      rw [if_pos rfl] at H;have H':=D H;clear H
      go_wp2
      go_roundg m
      case measure=>have:=i.out;omega
      case rel=>exact ⟨(d),(wrap64 (a+1)),Z69,H',⟨by have:=i.out;omega⟩,⟨pR_ (Kd.R_mono HO_3.out (fun _ hk=>trivial))⟩,⟨pB_ HB.out⟩⟩
     ·replace p:=Bool.eq_false_iff.mpr p
      subst p;rw [if_neg (show ¬ (false=true) by decide)] at H
      by_cases q:d.length < 17592186044416
      ·rw [if_pos q] at H
       have av:=D q;clear q;obtain ⟨X,n⟩:∃ y_:List Int,y_=(d ++ [a]):=⟨_,rfl⟩
       replace H:(impl_mains.l0 m l0 X (wrap64 (a+1)))=some r:=by first|(rw [n];with_reducible exact H)|(have H2_:=(Option.bind_some _ _).symm.trans H;rw [n];with_reducible exact H2_)|(have H2_:=(Option.bind_some _ _).symm.trans H;with_reducible exact H2_)|with_reducible exact H|(rw [n];exact H)|exact H
       have aw:=D n;clear n;have H':=D H;clear H;obtain ⟨aG,aH⟩:=cells1 BK836.out
       go_wp2_with (first|((with_reducible refine gate_builtin (b:=.append) (xs:=#[.tmp 18,.tmp 20]) rfl ?_);at_builtin;refine Kd.R_append (Kd.int .i64) (w0:=w) w.heap.size rfl (.tmp 18) (.tmp 20) 33 3 (I L 0) 8 rfl Try.underlying33 info3 rfl (by decide) (by omega) u3 d a [I L a] (fun k_=>k_≠c) (fun _=>False) rfl rfl ?aP (fun _ hk=>hk.elim) ?aF ?aO ?aB ?aS ?aL ?_;(case aP=>exact rfl);(case aB=>exact (pB_ HB.out));(case aF=>exact (fun k_ hk=>Kd.freshB (pk_ BK836.out) k_ hk));(case aO=>exact (pR_ (Kd.R_mono HO_3.out (fun _ hk=>hk.2))));(case aS=>exact (below_size (pB_ HB.out)));(case aL=>have:=av.out;omega);intro aI aJ ho hb hg hat;rw [← aw.out] at ho;have n_:=an_ (blk_grown (pk_ BK836.out) hg (Kd.R_away HO_3.out (fun _ hk=>hk.2)))<|an_ (hb)<|D (ho);clear BK836 HB HO_3;obtain ⟨BK836,HB,ax⟩:=n_;clear ho hb hg hat))
       go_roundg m
       case measure=>have:=i.out;omega
       case rel=>exact ⟨(X),(wrap64 (a+1)),Z69,H',⟨by have:=i.out;omega⟩,⟨pR_ (Kd.R_mono ax.out (fun _ hk=>trivial))⟩,⟨pB_ HB.out⟩⟩
      ·rw [if_neg q] at H
       exact absurd H (by simp)
    ·rw [if_neg c5] at H
     have af:decide (0 < (l0.length:Int))=false:=decide_eq_false c5;have ag:decide (0 < l0.length)=false:=decide_eq_false (by omega);clear c5;have H':=D H;clear H
     go_wp2_with (first|((with_reducible refine gate_dst (N:=4) rfl ?_);refine bx_ (N:=4) (cs:=#[I L 0]) (t:=3) ?_;intro c hg aK hbox hb;have n_:=an_ (Kd.R_below (Kd.R_elderB (pR_ HO_3.out) c (Nat.le_of_eq hg.symm)) hb)<|an_ (below_step (pB_ HB.out) hb)<|an_ (hbox)<|an_ (bg_ hg (pB_ HB.out):w.heap.size≤c)<|D (bg_ hg (pB_ HB.out):w.heap.size≤c);clear HO_3 HB;obtain ⟨HO_3,HB,BK836,ai,aj⟩:=n_;clear hb hbox hg;have aM:=cells1 BK836.out))
     go_roundg m
     case measure=>have:=i.out;omega
     case rel=>exact ⟨(d),(wrap64 (a+1)),Z69,H',⟨by have:=i.out;omega⟩,⟨rM_ (Kd.R_mono HO_3.out (fun k_ hk=>(⟨hk,hk.2⟩:_∧k_≠c))) (fun _ hk=>trivial)⟩,⟨pB_ HB.out⟩⟩
   ·rw [if_neg c4] at H
    have ae:decide (a < 3)=false:=decide_eq_false c4;clear c4;obtain rfl:=Option.some.inj H
    go_wp2
    go_ret;exact ⟨_,er_,by (with_reducible repeat (first|apply Kd.R_alloc|apply Kd.R_drewN|apply Kd.R_drew));exact HO_3.out,pB_ HB.out⟩
def impl_Mains.f (k:Nat) (l0:List (S44)) (b c d:Int):Option (List Int):=(impl_span.f k l0 c d).bind fun a=>(if a.2=true then ((impl_dealsOf.f k a.1 b).bind fun e=>((impl_mains.f k e).bind fun g=>(some g))) else (some ([]:List Int)))
theorem impl_Mains.calls (k:Nat) (l:Option Addr) (m:Nat) (l0:List (S44)) (d g i:Int) (r:List Int) (w:World) (p:Kd.C k44 w l l0.length l0) (q:l0.length≤m) (h:impl_Mains.f k l0 d g i=some r) :
  Calls Try.prog 10 #[Y l l0.length m,I L d,I L g,I L i] w fun e w'=>∃ s:Value,e=.returned (s)∧Kd.R (Kd.int .i64) 3 w' w.heap.size (fun _=>True) s r∧Below w.heap.size w w':=by
 have A:=D p
 have B:=D q
 clear p q
 have HB:=D (Below.refl w.heap.size w)
 have H:((impl_span.f k l0 g i).bind fun t=>(if t.2=true then ((impl_dealsOf.f k t.1 d).bind fun j=>((impl_mains.f k j).bind fun n=>(some n))) else (some ([]:List Int))))=some r:=h
 clear h
 obtain ⟨⟨o,u⟩,v,H⟩:=bs_.mp H
 (try dsimp only at H)
 have E:=D v
 clear v
 have x:=D H
 clear H
 go_enter Try.func10,Try.ntmps10
 go_upto_if 19 with (first|((with_reducible refine gate_callee (f:=22) rfl ?_);refine goesL_ (some 15) rfl rfl Try.func22 (by kernel_rfl) rfl #[Y l l0.length m,I L g,I L i] rfl Z20 ?_;(with_reducible refine (impl_span.calls k (fun k_=>k_ < w.heap.size) _ _ l0 g i o u _ ?side1 E.out).mono ?_);(case side1=>exact Kd.V_mk B.out (Kd.F_below (Kd.C_F k44_heap A.out) (pB_ HB.out)));rintro e P ⟨T,rfl,a,hb⟩;refine ⟨_,rfl,?_⟩;have n_:=an_ (Kd.V_lower (Kd.V_mono (ok':=fun k_=>True) a (fun k_ hk_=>trivial)) (below_size (pB_ HB.out)))<|D (below_step (pB_ HB.out) hb);clear HB;obtain ⟨b,HB⟩:=n_;(try clear hb);(try clear a)))
 have H:=x.out
 clear x
 by_cases c8:u=true
 ·subst c8
  rw [if_pos rfl] at H;obtain ⟨j,y,H⟩:=bs_.mp H;(try dsimp only at H);have G:=D y;clear y;obtain ⟨n,z,H⟩:=bs_.mp H;(try dsimp only at H);have J:=D z;clear z;obtain rfl:=Option.some.inj H;obtain ⟨Ao11,co11,K⟩:=Kd.V_slice b.out;subst K
  go_wp2_with (first|((with_reducible refine gate_callee (f:=24) rfl ?_);refine goesL_ (some 22) rfl rfl Try.func24 (by kernel_rfl) rfl #[Y Ao11 o.length co11,I L d] rfl Z20 ?_;(with_reducible refine (impl_dealsOf.calls k (fun k_=>True) _ _ o d j _ ?side1 G.out).mono ?_);(case side1=>exact b.out);rintro e U ⟨W,rfl,a,hb⟩;refine ⟨_,rfl,?_⟩;have n_:=an_ (Kd.V_elder' (pV_ b.out) (Kd.N_base a) hb)<|an_ (Kd.N_lower (Kd.N_mono (ok':=fun k_=>True) a (fun k_ hk_=>trivial)) (below_size (pB_ HB.out)))<|D (below_step (pB_ HB.out) hb);clear b HB;obtain ⟨b,c,HB⟩:=n_;(try clear hb);(try clear a);obtain ⟨Ao13,co13,M⟩:=Kd.N_slice c.out;subst M)|((with_reducible refine gate_callee (f:=26) rfl ?_);refine goesL_ (some 23) rfl rfl Try.func26 (by kernel_rfl) rfl #[Y Ao13 j.length co13] rfl Z20 ?_;(with_reducible refine (impl_mains.calls k _ _ j n _ ?side1 ?side2 J.out).mono ?_);(case side1=>exact pC_ ((Kd.N_reads' c.out).2.2));(case side2=>exact (Kd.N_reads' c.out).2.1);rintro e X ⟨Z,rfl,a,hb⟩;refine ⟨_,rfl,?_⟩;have n_:=an_ (Kd.V_elder' (pV_ b.out) (Kd.R_base a) hb)<|an_ (Kd.N_elder' (pN_ c.out) (Kd.R_base a) hb)<|an_ (Kd.R_lower a (below_size (pB_ HB.out)))<|D (below_step (pB_ HB.out) hb);clear b c HB;obtain ⟨b,c,O,HB⟩:=n_;(try clear hb);(try clear a)))
  go_ret;exact ⟨_,er_,by (with_reducible repeat (first|apply Kd.R_alloc|apply Kd.R_drewN|apply Kd.R_drew));exact O.out,pB_ HB.out⟩
 ·replace c8:=Bool.eq_false_iff.mpr c8
  subst c8;rw [if_neg (show ¬ (false=true) by decide)] at H;obtain rfl:=Option.some.inj H
  go_wp2
  go_ret;exact ⟨_,er_,by first|exact Kd.R_nil _ _ _ _ _|exact Kd.N_nil _ _ _ _ _|exact Kd.V_nil _ _ _ _ _|exact Kd.Q_nil _ _ _ _ _|exact Kd.S_nil _ _ _ _ _,pB_ HB.out⟩
end Go.Proofs.Ytpkdkhhknmlpjaa.PFnTakenAdds
