-- by a program of this session's, over the kit's words
import Derived.Test.YteahaehbciccmaaPZFnPutDrop
import Derived.Test.YteahaehbciccmaaPFnPutDropx0
import Derived.Test.YteahaehbciccmaaPFnPutDropx5
namespace Go.Proofs.Yteahaehbciccmaa.PFnPutDrop
open Go.RowKit Go.Proofs.YteahaehbciccmaaW.PrintWords Go.Proofs.YteahaehbciccmaaW.PrintLast Go.Proofs.YteahaehbciccmaaW.PrintMore Go.Proofs.YteahaehbciccmaaV Go.Proofs.Yteahaehbciccmaa.ZFnPutDrop
open Go.Value renaming int → I, slice → Y
open Go.IntKind renaming i64 → L
open Aside0 renaming mk → D
open Option renaming bind_eq_some_iff → bs_
attribute [local go_sem] qad_ qab_ qak_ qaj_ q4_ q3_ qac_ qaa_
set_option linter.unusedVariables false
set_option linter.unusedSimpArgs false
set_option maxHeartbeats 8000000
set_option maxRecDepth 100000
def spec_l11Copy.f (c:Int) (a:List (S52)):Option (Int×(List (S52))):=(some (([]:List (S52)):List (S52))).bind fun b=>(if b.length+a.length < 1099511627776 then (some (c,(b ++ a))) else (none))
def spec_l11Copy.T1:Bool×List (List Nat×List Nat):=(true,[([],[]),([0],[0]),([],[]),([],[]),([3],[3]),([2,4],[2,4]),([1,5],[1,5]),([6,5,0,1,2,3,4,5,6],[6])])
def spec_l11Copy.B1:List Nat:=[0,1,0,0,8,28,63,127]
theorem spec_l11Copy.tab1:rtab .any (opsOf Try.f20 1)=spec_l11Copy.T1:=by kernel_rfl
theorem spec_l11Copy.bits1:q8_ spec_l11Copy.T1.2 spec_l11Copy.B1=true:=by kernel_rfl
theorem spec_l11Copy.calls (d:Int) (r:Option Addr) (s:Nat) (c:List (S52)) (l:Int) (m:List (S52)) (w:World) (y:Kd.C k52 w r c.length c) (z:c.length≤s) (h:spec_l11Copy.f d c=some (l,m)) :
  Calls Try.prog 20 #[.agg #[I L d,Y r c.length s]] w fun e w'=>∃ A:Value,e=.returned (.agg #[I L l,A])∧Kd.R k52 52 w' w.heap.size (fun _=>True) A m∧Below w.heap.size w w':=by
 have hu26:=Try.underlying26
 have O:=D y
 have X:=D z
 clear y z
 have HB:=D (Below.refl w.heap.size w)
 have H:((some (([]:List (S52)):List (S52))).bind fun g=>(if g.length+c.length < 1099511627776 then (some (d,(g ++ c))) else (none)))=some (l,m):=h
 clear h
 obtain ⟨g,o⟩:∃ y_:List (S52),y_=(([]:List (S52))):=⟨_,rfl⟩
 replace H:(if g.length+c.length < 1099511627776 then (some (d,(g ++ c))) else (none))=some (l,m):=by first|(rw [o];with_reducible exact H)|(have H2_:=(Option.bind_some _ _).symm.trans H;rw [o];with_reducible exact H2_)|(have H2_:=(Option.bind_some _ _).symm.trans H;with_reducible exact H2_)|with_reducible exact H|(rw [o];exact H)|exact H
 have B:=D o
 clear o
 by_cases c2:g.length+c.length < 1099511627776
 ·rw [if_pos c2] at H
  have P:=D c2;clear c2;obtain ⟨x,p⟩:∃ y_:List (S52),y_=(g ++ c):=⟨_,rfl⟩
  replace H:(some (d,x))=some (l,m):=by first|(rw [p];with_reducible exact H)|(have H2_:=(Option.bind_some _ _).symm.trans H;rw [p];with_reducible exact H2_)|(have H2_:=(Option.bind_some _ _).symm.trans H;with_reducible exact H2_)|with_reducible exact H|(rw [p];exact H)|exact H
  have T:=D p;clear p;simp only [Option.some.injEq,Prod.mk.injEq] at H;obtain ⟨rfl,rfl⟩:=H;go_enter Try.func20,Try.ntmps20
  try go_wp2_with (first|((with_reducible refine qg_ (N:=1) rfl ?_);refine bx_ (N:=1) (cs:=#[I L d,Y r c.length s]) (t:=26) ?_;intro k hg Z hbox hb;have n_:=an_ (qc_ (pB_ HB.out) hb)<|an_ (hbox)<|an_ (bg_ hg (pB_ HB.out):w.heap.size≤k)<|D (bg_ hg (pB_ HB.out):w.heap.size≤k);clear HB;obtain ⟨HB,a,aa,ab⟩:=n_;clear hb hbox hg)|((with_reducible refine qg_ (N:=2) rfl ?_);refine bx_ (N:=2) (cs:=#[I L 0,Y none 0 0]) (t:=26) ?_;intro j hg U hbox hb;have n_:=an_ (qb_ (pk_ a.out) hb)<|an_ (qc_ (pB_ HB.out) hb)<|an_ (hbox)<|an_ (bg_ hg (pB_ HB.out):w.heap.size≤j)<|an_ (bg_ hg (pB_ HB.out):w.heap.size≤j)<|an_ (nl_ hg (pk_ a.out):k≠j)<|D (by rw [hg];exact Nat.ne_of_gt (qz_ (pk_ a.out)):j≠k);clear a HB;obtain ⟨a,HB,b,ac,ad,u,E⟩:=n_;clear hb hbox hg))
  have n_:=an_ (qt_ a.out)<|an_ (qt_ b.out)<|D (qr_ HB.out)
  clear a b HB;obtain ⟨a,b,HB⟩:=n_;refine qaw_ (n:=8) (S:=fun w'=>w'.cell? ⟨k,0,none⟩=some (I L d)∧w'.cell? ⟨k,1,none⟩=some (Y r c.length s)) (ds:=[]) (bz 8 0) (by kernel_rfl) rfl (by kernel_rfl) (be2_ a.out) (fun hHeld=>?_);refine q6_ spec_l11Copy.tab1 spec_l11Copy.bits1 (fun HT_ HW_=>?_);generalize U.drew=w5 at a b HB hHeld ⊢;refine pb_ 0 ?_;refine pb_ 3 ?_;refine tb_ 1 rfl rfl hHeld Z23 ?_;refine tb_ 4 rfl rfl hHeld Z23 ?_;refine oa_ 2 5 8 31 HT_ (fun K hK=>?_);refine Kd.R_lit_step k52 _ 52 ?hg (N:=5) ?hd (xs:=([]:List (S52))) (inner:=[]) (ok:=fun _=>True) (okp:=fun _=>True) ?hr ?hp (fun _ hk=>hk) trivial (Below.refl _ _) (Nat.le_refl _) (by simp) ?_;(case hd=>rfl);(case hg=>rfl);(case hr=>first|(go_simp;done)|(go_simp;rfl));(case hp=>exact (Reps.none _ _));intro W w6 q hb hg_ hnew_;clear hg_ hnew_;(first|rw [← B.out] at q|(simp only [Int.reduceToNat] at q;rw [← B.out] at q))
  have n_:=an_ (Kd.R_lower q (qh_ (pB_ HB.out)))<|an_ (qb_ (pk_ a.out) hb)<|an_ (qb_ (pk_ b.out) hb)<|D (qc_ (pB_ HB.out) hb)
  clear a b HB;obtain ⟨v,a,b,HB⟩:=n_;clear hb q;refine hK.out _ _ (be2_ a.out) (fun hHeld=>?_);clear hK K;refine nx_ (N:=some 5) ?_;refine oa_ 5 8 8 63 HT_ (fun K hK=>?_);refine Kd.R_append_rows_step k52 (w0:=w) w.heap.size (by rfl) (.tmp 5) (.tmp 7) 24 52 (.agg #[(.bool false),(I L 0),(I L 0),(I L 0),(I L 0),(I L 0),(I L 0),(I L 0),(I L 0),(I L 0),(I L 0),(I L 0),(I L 0),(I L 0),(I L 0),(I L 0)]) 128 rfl Try.underlying24 info52 rfl (by decide) (by omega) W g c _ _ _ (fun _=>True) (fun _=>False) rfl rfl ?aO ?aR (fun _ _ h=>h) (fun _ h=>h.elim) ?aF ?aB ?aS ?aL ?_;(case aR=>exact pC_ (Kd.C_below O.out HB.out));(case aB=>exact (pB_ HB.out));(case aF=>exact (fun _ _=>trivial));(case aO=>exact (pR_ v.out));(case aS=>exact (qh_ (pB_ HB.out)));(case aL=>have:=P.out;omega);intro ag G ho hb hg hat;rw [← T.out] at ho
  have n_:=an_ (qv_ (pk_ a.out) hg (Kd.R_ne v.out a.out (by decide)))<|an_ (qv_ (pk_ b.out) hg (Kd.R_ne v.out b.out (by decide)))<|an_ (hb)<|D (ho)
  clear a b HB v;obtain ⟨a,b,HB,J⟩:=n_;clear ho hb hg hat;obtain ⟨Ao9,co9,M⟩:=Kd.R_slice J.out;(first|subst M|obtain ⟨rfl,rfl⟩:=qas_ M);refine hK.out _ _ (be2_ a.out) (fun hHeld=>?_);clear hK K;refine nx_ (N:=some 8) ?_;refine pb_ 6 ?_;refine one_ (i:=7) (N:=none) (bz 8 255) rfl rfl (one_of HT_.out (by kernel_rfl)) (by decide) (fun K hK=>?_);have ah:G.cell? ⟨j,0,none⟩=some (I L 0):=bc_ b.out 0;have ai:=qj_ b.out 0;have aj:=u.out;have ak:=E.out;have al:G.cell? ⟨j,1,none⟩=some (Y none 0 0):=bc_ b.out 1;have am:=qj_ b.out 1;have an:=u.out;have ao:=E.out;refine skip_ (w1:=?_) (by rfl) rfl ?_ ?_;rotate_left
  ·go_simp
   rfl
  refine hK.out _ _ ⟨(cF_ u.out (hHeld.1)),(cF_ u.out (hHeld.2))⟩ (fun hHeld=>?_);clear hK K;refine done_ (qaq_ HT_.out (by kernel_rfl)) ?_
  try go_wp2
  refine bodyPost_ret (results_cell_row rfl _ _ j 26 #[I L d,Y Ao9 x.length co9] (0,0) _ rfl (by exact pP_ b.out) Try.underlying26 rfl (by kernel_rfl)) rfl ?_;exact ⟨_,er_,by (with_reducible repeat (first|apply Kd.R_alloc|apply Kd.R_drewN|apply Kd.R_drew));exact Kd.R_mono (fr_ (fr_ (Kd.R_types J.out b.out (by decide)) 0 (I L d)) 1 (Y Ao9 x.length co9)) (fun _ hk=>trivial),pB_ HB.out⟩
 ·rw [if_neg c2] at H
  exact absurd H (by simp)
def spec_l11Into.l0:Nat→Int→Int→Int→Int→List (S52)→Int→Int→Int→Int→Int→Int→Int→Int→Int→Int→Int→Int→Int→Int→Option ((List (S52)))
 | 0,_,_,_,_,_,_,_,_,_,_,_,_,_,_,_,_,_,_,_=>none
 | k+1,x2,x6,x7,r,a,b,c,d,e,g,h,i,j,l,m,n,o,p,q=>if x7 < (a.length:Int) then (if 0≤x6 then (if x6 < (a.length:Int) then (if (qa_ a x6).f0=true then (if (a.length:Int)=0 then (none) else (spec_l11Into.l0 k x2 (Int.tmod (wrap64 (x6+1)) (a.length:Int)) (wrap64 (x7+1)) r a b c d e g h i j l m n o p q)) else (some (a.set (x6:Int).toNat (⟨true,(⟨b,(⟨(⟨c,d,e,g,h⟩:S28),(⟨i,j,l,m,n⟩:S28),o,p,q⟩:S30)⟩:S32),x2⟩:S52)))) else (none)) else (none)) else (if 0≤x6 then (if x6 < (a.length:Int) then (some (a.set (x6:Int).toNat (⟨true,(⟨b,(⟨(⟨c,d,e,g,h⟩:S28),(⟨i,j,l,m,n⟩:S28),o,p,q⟩:S30)⟩:S32),x2⟩:S52))) else (none)) else (none))
def spec_l11Into.f (k:Nat) (a:Int) (b:List (S52)) (c d e g h i j l m n o p q r a2:Int):Option ((List (S52))):=(spec_l11Home.f k a b c d e g h i j l m n o p q r).bind fun s=>(spec_l11Into.l0 k a2 s 0 a b c d e g h i j l m n o p q r)
theorem spec_l11Into.calls (k:Nat) (M:Int) (E:Nat→Prop) (u9000_:Value) (b:List (S52)) (c d g i l n o q s u y z A B a2:Int) (r:List (S52)) (G w:World) (hB:Below G.heap.size G w) (aN:Kd.R k52 52 w G.heap.size E u9000_ b) (h:spec_l11Into.f k M b c d g i l n o q s u y z A B a2=some r) :
  Calls Try.prog 22 #[.agg #[I L M,u9000_],.agg #[I L c,I L d,I L g,I L i,I L l,I L n,I L o,I L q,I L s,I L u,I L y,I L z,I L A,I L B],I L a2] w fun e w'=>e=.returned (.tuple #[])∧Kd.R k52 52 w' G.heap.size (fun k_=>(E k_∨w.heap.size≤k_)) u9000_ r∧Below G.heap.size G w'∧Kept w w' (fun k_=>E k_):=by
 have hu26:=Try.underlying26
 have hu32:=Try.underlying32
 have hu52:=Try.underlying52
 have Ua:=D (show Kd.R k52 52 w G.heap.size (fun k_=>(E k_∨w.heap.size≤k_)) u9000_ b from Kd.R_mono aN (fun k_ hk=>(.inl hk)))
 have HK:=D (Kept.refl w (fun k_=>E k_))
 have be:=D hB.size
 have HB:=D hB
 clear hB
 have H:((spec_l11Home.f k M b c d g i l n o q s u y z A B).bind fun Jc=>(spec_l11Into.l0 k a2 Jc 0 M b c d g i l n o q s u y z A B))=some r:=h
 clear h
 obtain ⟨Jc,ao,H⟩:=bs_.mp H
 (try dsimp only at H)
 have A4:=D ao
 clear ao
 have H':=D H
 clear H
 obtain ⟨Ob,Xa,aP⟩:=Kd.R_slice Ua.out
 subst aP
 go_enter Try.func22,Try.ntmps22
 go_wp2_with (first|((with_reducible refine gbd_ 52 rfl ?_);refine ba52_2 ?_)|((with_reducible refine gld_ 4 rfl ?_);refine lc4_ ?_)|((with_reducible refine gst_ 32 rfl ?_);refine sa32_ ?_)|((with_reducible refine gld_ 32 rfl ?_);refine la32_ ?_)|((with_reducible refine qg_ (N:=3) rfl ?_);refine bx_ (N:=3) (cs:=#[I L M,Y Ob b.length Xa]) (t:=26) ?_;intro Kb hg w6 hbox hb;have n_:=an_ (Kd.R_below (pR_ Ua.out) hb)<|an_ (Kept.below (S:=(fun k_=>E k_)) (by repeat (first|(with_reducible first|exact HK.out|apply Kept.alloc|apply Kept.drewN|apply Kept.drew)|exact HK.out)) hb)<|an_ (qc_ (pB_ HB.out) hb)<|an_ (hbox)<|an_ ((by rw [hg];exact (by first|exact HK.out.1|exact (show Kept w _ (fun k_=>E k_) from by repeat (first|(with_reducible first|exact HK.out|apply Kept.alloc|apply Kept.drewN|apply Kept.drew)|exact HK.out)).1):w.heap.size≤Kb))<|D (by rw [hg];exact (qh_ (pB_ HB.out)):G.heap.size≤Kb);clear Ua HK HB;obtain ⟨Ua,HK,HB,Ka,Jb,Ji⟩:=n_;clear hb hbox hg)|((with_reducible refine qg_ (N:=4) rfl ?_);refine bx_ (N:=4) (cs:=#[I L c,I L d,I L g,I L i,I L l,I L n,I L o,I L q,I L s,I L u,I L y,I L z,I L A,I L B]) (t:=32) ?_;intro Oa hg w7 hbox hb;have n_:=an_ (Kd.R_below (pR_ Ua.out) hb)<|an_ (qb_ (pk_ Ka.out) hb)<|an_ (Kept.below (S:=(fun k_=>E k_)) (by repeat (first|(with_reducible first|exact HK.out|apply Kept.alloc|apply Kept.drewN|apply Kept.drew|refine Kept.setCell ?_ (.inr Jb.out) _)|exact HK.out)) hb)<|an_ (qc_ (pB_ HB.out) hb)<|an_ (hbox)<|an_ ((by rw [hg];exact (by first|exact HK.out.1|exact (show Kept w _ (fun k_=>E k_) from by repeat (first|(with_reducible first|exact HK.out|apply Kept.alloc|apply Kept.drewN|apply Kept.drew|refine Kept.setCell ?_ (.inr Jb.out) _)|exact HK.out)).1):w.heap.size≤Oa))<|an_ ((by rw [hg];exact (qh_ (pB_ HB.out)):G.heap.size≤Oa))<|an_ (nl_ hg (pk_ Ka.out):Kb≠Oa)<|D (by rw [hg];exact Nat.ne_of_gt (qz_ (pk_ Ka.out)):Oa≠Kb);clear Ua Ka HK HB;obtain ⟨Ua,Ka,HK,HB,Ja,Mb,Ki,Ub,Xb⟩:=n_;clear hb hbox hg;(try have:=Ub.out);(try have:=Xb.out);have Oc:=ql_ Ka.out)|((with_reducible refine qd_ (f:=33) rfl ?_);refine qk_ (some 10) rfl rfl Try.func33 (by kernel_rfl) rfl #[.agg #[I L M,Y Ob b.length Xa],.agg #[I L c,I L d,I L g,I L i,I L l,I L n,I L o,I L q,I L s,I L u,I L y,I L z,I L A,I L B]] rfl Z12 ?_;(with_reducible refine (spec_l11Home.calls k M _ _ b c d g i l n o q s u y z A B Jc _ ?side1 ?side2 A4.out).mono ?_);(case side1=>exact pC_ ((Kd.R_reads' Ua.out).2.2));(case side2=>exact (Kd.R_reads' Ua.out).2.1);rintro e bh ⟨rfl,hb⟩;refine ⟨_,rfl,?_⟩;have n_:=an_ (Kd.R_below (pR_ Ua.out) hb)<|an_ (qb_ (pk_ Ka.out) hb)<|an_ (qb_ (pk_ Ja.out) hb)<|an_ (Kept.below (S:=(fun k_=>E k_)) Z5 hb)<|D (qc_ (pB_ HB.out) hb);clear Ua Ka Ja HK HB;obtain ⟨Ua,Ka,Ja,HK,HB⟩:=n_;(try clear hb)))
 go_loopg [6,7] k (fun kq v6 v7 w'=>∃ (a:Int) (O:Int),v6=I L a∧v7=I L O∧Aside0 (spec_l11Into.l0 kq a2 a O M b c d g i l n o q s u y z A B=some r)∧Aside0 (kq≤k)∧Aside0 (Kd.R k52 52 w' G.heap.size (fun k_=>(E k_∨w.heap.size≤k_)) (Y Ob b.length Xa) b)∧Aside0 (w'.heap[Kb]?=some (.cells #[I L M,(Y Ob b.length Xa)] 26 (0,0)))∧Aside0 (w'.heap[Oa]?=some (.cells #[I L c,I L d,I L g,I L i,I L l,I L n,I L o,I L q,I L s,I L u,I L y,I L z,I L A,I L B] 32 (0,0)))∧Aside0 (Kept w w' (fun k_=>E k_))∧Aside0 (Below G.heap.size G w'))
 case atStart=>exact ⟨(Jc),(0),Z35,Z35,H',⟨Nat.le_refl _⟩,⟨pR_ Ua.out⟩,⟨pk_ Ka.out⟩,⟨pk_ Ja.out⟩,⟨by repeat (first|(with_reducible first|exact HK.out|apply Kept.alloc|apply Kept.drewN|apply Kept.drew|refine Kept.setCell ?_ (.inr Jb.out) _|refine Kept.setCell ?_ (.inr Mb.out) _)|exact HK.out)⟩,⟨pB_ HB.out⟩⟩
 case round =>
  clear H'
  (try clear c2);(try clear p2);(try clear c3);(try clear c8);skip;(try clear Oc)
  obtain ⟨a,O,rfl,rfl,HA,ap,Ma,Ka,Ja,HK,HB⟩:=hrel
  cases gk with
  | zero=>exact absurd HA.out (by simp [spec_l11Into.l0])
  | succ k1 =>
   have H:=HA.out;clear HA;simp only [spec_l11Into.l0] at H
   by_cases P:O < (b.length:Int)
   ·rw [if_pos P] at H
    have aQ:decide (O < (b.length:Int))=true:=decide_eq_true P;clear P
    by_cases X:0≤a
    ·rw [if_pos X] at H
     have bj:decide (0≤a)=true:=decide_eq_true X;clear X
     by_cases Z:a < (b.length:Int)
     ·rw [if_pos Z] at H
      have bk:decide (a < (b.length:Int))=true:=decide_eq_true Z;clear Z;have ar:=D H;clear H;(try have:=Ub.out);(try have:=Xb.out);have Mi:=ql_ Ka.out;have ad:0≤(a:Int):=od_ Z22;have ae:a < (b.length:Int):=od_ Z22;obtain ⟨bl,aR,aS,aT,aU,aV,aW,aX,aY,aZ,a0,a1,a3,a4,a5,a6,a7,a8⟩:=at_T52 (Kd.R_reads' Ma.out).2.2 a ad ae;cases aR;replace ad:=eq_true ad;replace ae:=eq_true ae
      go_upto_if 23 with (first|((with_reducible refine gbd_ 52 rfl ?_);refine ba52_2 ?_)|((with_reducible refine gld_ 4 rfl ?_);refine lc4_ ?_)|((with_reducible refine gst_ 32 rfl ?_);refine sa32_ ?_)|((with_reducible refine gld_ 32 rfl ?_);refine la32_ ?_))
      have H:=ar.out;clear ar;obtain ⟨au,af⟩:∃ b_:Bool,b_=((qa_ b a).f0):=⟨_,rfl⟩
      replace H:(if au=true then (if (b.length:Int)=0 then (none) else (spec_l11Into.l0 k1 a2 (Int.tmod (wrap64 (a+1)) (b.length:Int)) (wrap64 (O+1)) M b c d g i l n o q s u y z A B)) else (some (b.set (a:Int).toNat (⟨true,(⟨c,(⟨(⟨d,g,i,l,n⟩:S28),(⟨o,q,s,u,y⟩:S28),z,A,B⟩:S30)⟩:S32),a2⟩:S52))))=some r:=by rw [← af] at H;exact H
      have a9:=D af;clear af;(try rw [← a9.out])
      by_cases aa:au=true
      ·subst aa
       rw [if_pos rfl] at H
       by_cases T:(b.length:Int)=0
       ·rw [if_pos T] at H
        exact absurd H (by simp)
       ·rw [if_neg T] at H
        have bm:((b.length:Int) == 0)=false:=beq_eq_false_iff_ne.mpr T;have bn:((b.length:Int) != 0)=true:=bne_iff_ne.mpr T
        have bo:¬ (b=[]):=fun h_=>T (by rw [h_];rfl)
        have H':=D H;clear H;(try have bp:=Ub.out);(try have bq:=Xb.out);obtain ⟨Jj,Kj,Mj,Oj⟩:=ql_ Ka.out
        go_wp2_with (first|((with_reducible refine gbd_ 52 rfl ?_);refine ba52_2 ?_)|((with_reducible refine gld_ 4 rfl ?_);refine lc4_ ?_)|((with_reducible refine gst_ 32 rfl ?_);refine sa32_ ?_)|((with_reducible refine gld_ 32 rfl ?_);refine la32_ ?_))
        go_roundg k1
        case measure=>have:=ap.out;omega
        case rel=>exact ⟨(Int.tmod (wrap64 (a+1)) (b.length:Int)),(wrap64 (O+1)),Z35,Z35,H',⟨by have:=ap.out;omega⟩,⟨pR_ Ma.out⟩,⟨pk_ Ka.out⟩,⟨pk_ Ja.out⟩,⟨by repeat (first|(with_reducible first|exact HK.out|apply Kept.alloc|apply Kept.drewN|apply Kept.drew|refine Kept.setCell ?_ (.inr Jb.out) _|refine Kept.setCell ?_ (.inr Mb.out) _)|exact HK.out)⟩,⟨pB_ HB.out⟩⟩
      ·replace aa:=Bool.eq_false_iff.mpr aa
       subst aa;rw [if_neg (show ¬ (false=true) by decide)] at H;obtain ⟨av,U⟩:∃ y_:List (S52),y_=(b.set (a:Int).toNat (⟨true,(⟨c,(⟨(⟨d,g,i,l,n⟩:S28),(⟨o,q,s,u,y⟩:S28),z,A,B⟩:S30)⟩:S32),a2⟩:S52)):=⟨_,rfl⟩
       replace H:(some av)=some r:=by first|(rw [U];with_reducible exact H)|(have H2_:=(Option.bind_some _ _).symm.trans H;rw [U];with_reducible exact H2_)|(have H2_:=(Option.bind_some _ _).symm.trans H;with_reducible exact H2_)|with_reducible exact H|(rw [U];exact H)|exact H
       have ba:=D U;clear U;obtain rfl:=Option.some.inj H;(try have:=Ub.out);(try have:=Xb.out);have Uj:=ql_ Ka.out;have ag:0≤(a:Int):=od_ Z22;have ah:(a:Int) < ((b.length:Int):Int):=od_ Z22;obtain ⟨go23,Jq,aw,Kc,gl23,cl23,HG23⟩:=Kd.R_form Ma.out (by omega);(first|cases aw|(injection aw with ea_ en_ ec_;(first|subst ea_|(injection ea_ with ea_;subst ea_));subst ec_;clear en_));have J:=D Kc;have GG23:=D HG23;clear Kc gl23 HG23;have HMgo23:=D (show (E go23∨w.heap.size≤go23) from (Ma.out.1 _ rfl));(first|simp only [qat_] at aS aT aU aV aW aX aY aZ a0 a1 a3 a4 a5 a6 a7 a8|skip);obtain ⟨ce23,bb,ax,ay,az⟩:=Kd.R_elem Ma.out z52 (a:Int) ag ah;obtain rfl:=q7_ ax;obtain ⟨bs,bu,bv,bw,bx,bA,bB,bC,bD,bE,bF,bG,bH,bI,bJ,bK,bL,bM,bN,bO,bP,bQ,bR,bS,bT,bU,bV,bW,bX,bY,bZ,b0⟩:=es52_ (m:=(a:Int).toNat * 16) (x:=(qa_ b a)) ay az;clear bb ay az ax;replace ag:=eq_true ag;replace ah:=eq_true ah;have aA:=D (show Kd.R k52 52 wr G.heap.size (fun k_=>(E k_∨w.heap.size≤k_)) (Y (some ⟨go23,0,none⟩) b.length Xa) b from (pR_ Ma.out));obtain ⟨ce27,aB,aC,ai,aD⟩:=Kd.R_elem aA.out z52 (a:Int) (od_ Z22) (by have h_:(a:Int) < ((b.length:Int):Int):=od_ Z22;first|exact h_|(have e_:=(Kd.R_reads' Ma.out).1;omega)|simpa using h_);obtain rfl:=q7_ aC;have HP27:=Kd.R_seg aA.out (a:Int) (od_ Z22) (by have h_:(a:Int) < ((b.length:Int):Int):=od_ Z22;first|exact h_|(have e_:=(Kd.R_reads' Ma.out).1;omega)|simpa using h_) (seg:=[.bool true,I L c,I L d,I L g,I L i,I L l,I L n,I L o,I L q,I L s,I L u,I L y,I L z,I L A,I L B,I L a2]) (j:=0) aB ai (show 16≤16 from by decide) (x':=(⟨true,(⟨c,(⟨(⟨d,g,i,l,n⟩:S28),(⟨o,q,s,u,y⟩:S28),z,A,B⟩:S30)⟩:S32),a2⟩:S52)) (k52_mkM _ _ _ (⟨true,(⟨c,(⟨(⟨d,g,i,l,n⟩:S28),(⟨o,q,s,u,y⟩:S28),z,A,B⟩:S30)⟩:S32),a2⟩:S52) ) (fun _ hk=>hk);obtain ⟨b1,b2,b3,b4,b5,b6,b7,b8,b9,ca,cb,cc,cd,ce,cf,cg,ch,ci,cj,ck,cl,cm,cn,co,cp,cq,cr,ct,cu,cv,cw,cx⟩:=es52_ (m:=(a:Int).toNat * 16) ai aD;clear aB ai aD aC
       go_wp2_with (first|((with_reducible refine gate_store (t:=52) (p:=38) rfl ?_);refine store_event (t:=52) (p:=38) (v:=?vo_w28) (w1:=((((((((((((((((wr.setCell ⟨go23,(a:Int).toNat * 16,none⟩ (.bool true)).setCell ⟨go23,(a:Int).toNat * 16+1,none⟩ (I L c)).setCell ⟨go23,(a:Int).toNat * 16+2,none⟩ (I L d)).setCell ⟨go23,(a:Int).toNat * 16+3,none⟩ (I L g)).setCell ⟨go23,(a:Int).toNat * 16+4,none⟩ (I L i)).setCell ⟨go23,(a:Int).toNat * 16+5,none⟩ (I L l)).setCell ⟨go23,(a:Int).toNat * 16+6,none⟩ (I L n)).setCell ⟨go23,(a:Int).toNat * 16+7,none⟩ (I L o)).setCell ⟨go23,(a:Int).toNat * 16+8,none⟩ (I L q)).setCell ⟨go23,(a:Int).toNat * 16+9,none⟩ (I L s)).setCell ⟨go23,(a:Int).toNat * 16+10,none⟩ (I L u)).setCell ⟨go23,(a:Int).toNat * 16+11,none⟩ (I L y)).setCell ⟨go23,(a:Int).toNat * 16+12,none⟩ (I L z)).setCell ⟨go23,(a:Int).toNat * 16+13,none⟩ (I L A)).setCell ⟨go23,(a:Int).toNat * 16+14,none⟩ (I L B)).setCell ⟨go23,(a:Int).toNat * 16+15,none⟩ (I L a2))) ?hg ?ho ?hn ?hr ?_;(case ho=>rfl);(case hg=>rfl);(case hn=>rfl);(case hr=>first|(go_simp;done)|(go_simp;rfl));intro aj hw;have hg:wr.grownBy aj (some go23):=(by rw [hw];exact HP27.2);have hp_:Kd.R k52 52 aj G.heap.size (fun k_=>(E k_∨w.heap.size≤k_)) (Y (some ⟨go23,0,none⟩) b.length Xa) av:=(by rw [hw,ba.out];exact HP27.1);clear HP27;have n_:=an_ (hp_)<|an_ (qv_ (pk_ Ka.out) hg (Kd.R_ne Ma.out Ka.out (by decide)))<|an_ (qv_ (pk_ Ja.out) hg (Kd.R_ne Ma.out Ja.out (by decide)))<|an_ ((by rw [hw];exact qe_ (qe_ (qe_ (qe_ (qe_ (qe_ (qe_ (qe_ (qe_ (qe_ (qe_ (qe_ (qe_ (qe_ (qe_ (qe_ (HB.out) J.out) J.out) J.out) J.out) J.out) J.out) J.out) J.out) J.out) J.out) J.out) J.out) J.out) J.out) J.out) J.out:Below G.heap.size G aj))<|D (Kept.of_grown (S:=(fun k_=>E k_)) hg Z5 (fun k_ e_=>(Ma.out.1 k_ e_)));clear Ma Ka Ja HB HK;obtain ⟨Ma,Ka,Ja,HB,HK⟩:=n_;clear hg hw hp_)|((with_reducible refine gbd_ 52 rfl ?_);refine ba52_2 ?_)|((with_reducible refine gld_ 4 rfl ?_);refine lc4_ ?_)|((with_reducible refine gst_ 32 rfl ?_);refine sa32_ ?_)|((with_reducible refine gld_ 32 rfl ?_);refine la32_ ?_))
       first | go_end0 | ((try simp only [Exit.inBlock,Exit.then]);refine bodyPost_ret (results_none rfl _ _ _) rfl ?_)
       exact ⟨er_,by (with_reducible repeat (first|apply Kd.R_alloc|apply Kd.R_drewN|apply Kd.R_drew));exact Ma.out,pB_ HB.out,by repeat (first|(with_reducible first|exact HK.out|apply Kept.alloc|apply Kept.drewN|apply Kept.drew|refine Kept.setCell ?_ (.inr Jb.out) _|refine Kept.setCell ?_ (.inr Mb.out) _)|exact HK.out)⟩
     ·rw [if_neg Z] at H
      exact absurd H (by simp)
    ·rw [if_neg X] at H
     exact absurd H (by simp)
   ·rw [if_neg P] at H
    have aQ:decide (O < (b.length:Int))=false:=decide_eq_false P;clear P
    by_cases ab:0≤a
    ·rw [if_pos ab] at H
     have cy:decide (0≤a)=true:=decide_eq_true ab;clear ab
     by_cases ac:a < (b.length:Int)
     ·rw [if_pos ac] at H
      have cz:decide (a < (b.length:Int))=true:=decide_eq_true ac;clear ac;obtain ⟨aE,W⟩:∃ y_:List (S52),y_=(b.set (a:Int).toNat (⟨true,(⟨c,(⟨(⟨d,g,i,l,n⟩:S28),(⟨o,q,s,u,y⟩:S28),z,A,B⟩:S30)⟩:S32),a2⟩:S52)):=⟨_,rfl⟩
      replace H:(some aE)=some r:=by first|(rw [W];with_reducible exact H)|(have H2_:=(Option.bind_some _ _).symm.trans H;rw [W];with_reducible exact H2_)|(have H2_:=(Option.bind_some _ _).symm.trans H;with_reducible exact H2_)|with_reducible exact H|(rw [W];exact H)|exact H
      have bc:=D W;clear W;obtain rfl:=Option.some.inj H;(try have:=Ub.out);(try have:=Xb.out);have Kq:=ql_ Ka.out;have ak:0≤(a:Int):=od_ Z22;have al:(a:Int) < ((b.length:Int):Int):=od_ Z22;obtain ⟨go31,Ox,aF,Mc,gl31,cl31,HG31⟩:=Kd.R_form Ma.out (by omega);(first|cases aF|(injection aF with ea_ en_ ec_;(first|subst ea_|(injection ea_ with ea_;subst ea_));subst ec_;clear en_));have K:=D Mc;have GG31:=D HG31;clear Mc gl31 HG31;have HMgo31:=D (show (E go31∨w.heap.size≤go31) from (Ma.out.1 _ rfl));obtain ⟨ce31,bd,aG,aH,aI⟩:=Kd.R_elem Ma.out z52 (a:Int) ak al;obtain rfl:=q7_ aG;obtain ⟨cA,cB,cC,cD,cE,cF,cG,cH,cI,cJ,cK,cL,cM,cN,cO,cP,cQ,cR,cS,cT,cU,cV,cW,cX,cY,cZ,c0,c1,da,db,dc,dd⟩:=es52_ (m:=(a:Int).toNat * 16) (x:=(qa_ b a)) aH aI;clear bd aH aI aG;replace ak:=eq_true ak;replace al:=eq_true al;have aJ:=D (show Kd.R k52 52 wr G.heap.size (fun k_=>(E k_∨w.heap.size≤k_)) (Y (some ⟨go31,0,none⟩) b.length Xa) b from (pR_ Ma.out));obtain ⟨ce35,aK,aL,am,aM⟩:=Kd.R_elem aJ.out z52 (a:Int) (od_ Z22) (by have h_:(a:Int) < ((b.length:Int):Int):=od_ Z22;first|exact h_|(have e_:=(Kd.R_reads' Ma.out).1;omega)|simpa using h_);obtain rfl:=q7_ aL;have HP35:=Kd.R_seg aJ.out (a:Int) (od_ Z22) (by have h_:(a:Int) < ((b.length:Int):Int):=od_ Z22;first|exact h_|(have e_:=(Kd.R_reads' Ma.out).1;omega)|simpa using h_) (seg:=[.bool true,I L c,I L d,I L g,I L i,I L l,I L n,I L o,I L q,I L s,I L u,I L y,I L z,I L A,I L B,I L a2]) (j:=0) aK am (show 16≤16 from by decide) (x':=(⟨true,(⟨c,(⟨(⟨d,g,i,l,n⟩:S28),(⟨o,q,s,u,y⟩:S28),z,A,B⟩:S30)⟩:S32),a2⟩:S52)) (k52_mkM _ _ _ (⟨true,(⟨c,(⟨(⟨d,g,i,l,n⟩:S28),(⟨o,q,s,u,y⟩:S28),z,A,B⟩:S30)⟩:S32),a2⟩:S52) ) (fun _ hk=>hk);obtain ⟨de,df,dg,dh,di,dj,dk,dl,dm,dn,dp,dq,dr,ds,dt,du,dv,dw,dx,dy,dz,dA,dB,dC,dD,dE,dF,dG,dH,dI,dJ,dK⟩:=es52_ (m:=(a:Int).toNat * 16) am aM;clear aK am aM aL
      go_wp2_with (first|((with_reducible refine gate_store (t:=52) (p:=38) rfl ?_);refine store_event (t:=52) (p:=38) (v:=?vo_w36) (w1:=((((((((((((((((wr.setCell ⟨go31,(a:Int).toNat * 16,none⟩ (.bool true)).setCell ⟨go31,(a:Int).toNat * 16+1,none⟩ (I L c)).setCell ⟨go31,(a:Int).toNat * 16+2,none⟩ (I L d)).setCell ⟨go31,(a:Int).toNat * 16+3,none⟩ (I L g)).setCell ⟨go31,(a:Int).toNat * 16+4,none⟩ (I L i)).setCell ⟨go31,(a:Int).toNat * 16+5,none⟩ (I L l)).setCell ⟨go31,(a:Int).toNat * 16+6,none⟩ (I L n)).setCell ⟨go31,(a:Int).toNat * 16+7,none⟩ (I L o)).setCell ⟨go31,(a:Int).toNat * 16+8,none⟩ (I L q)).setCell ⟨go31,(a:Int).toNat * 16+9,none⟩ (I L s)).setCell ⟨go31,(a:Int).toNat * 16+10,none⟩ (I L u)).setCell ⟨go31,(a:Int).toNat * 16+11,none⟩ (I L y)).setCell ⟨go31,(a:Int).toNat * 16+12,none⟩ (I L z)).setCell ⟨go31,(a:Int).toNat * 16+13,none⟩ (I L A)).setCell ⟨go31,(a:Int).toNat * 16+14,none⟩ (I L B)).setCell ⟨go31,(a:Int).toNat * 16+15,none⟩ (I L a2))) ?hg ?ho ?hn ?hr ?_;(case ho=>rfl);(case hg=>rfl);(case hn=>rfl);(case hr=>first|(go_simp;done)|(go_simp;rfl));intro an hw;have hg:wr.grownBy an (some go31):=(by rw [hw];exact HP35.2);have hp_:Kd.R k52 52 an G.heap.size (fun k_=>(E k_∨w.heap.size≤k_)) (Y (some ⟨go31,0,none⟩) b.length Xa) aE:=(by rw [hw,bc.out];exact HP35.1);clear HP35;have n_:=an_ (hp_)<|an_ (qv_ (pk_ Ka.out) hg (Kd.R_ne Ma.out Ka.out (by decide)))<|an_ (qv_ (pk_ Ja.out) hg (Kd.R_ne Ma.out Ja.out (by decide)))<|an_ ((by rw [hw];exact qe_ (qe_ (qe_ (qe_ (qe_ (qe_ (qe_ (qe_ (qe_ (qe_ (qe_ (qe_ (qe_ (qe_ (qe_ (qe_ (HB.out) K.out) K.out) K.out) K.out) K.out) K.out) K.out) K.out) K.out) K.out) K.out) K.out) K.out) K.out) K.out) K.out:Below G.heap.size G an))<|D (Kept.of_grown (S:=(fun k_=>E k_)) hg Z5 (fun k_ e_=>(Ma.out.1 k_ e_)));clear Ma Ka Ja HB HK;obtain ⟨Ma,Ka,Ja,HB,HK⟩:=n_;clear hg hw hp_)|((with_reducible refine gbd_ 52 rfl ?_);refine ba52_2 ?_)|((with_reducible refine gld_ 4 rfl ?_);refine lc4_ ?_)|((with_reducible refine gst_ 32 rfl ?_);refine sa32_ ?_)|((with_reducible refine gld_ 32 rfl ?_);refine la32_ ?_))
      first | go_end0 | ((try simp only [Exit.inBlock,Exit.then]);refine bodyPost_ret (results_none rfl _ _ _) rfl ?_)
      exact ⟨er_,by (with_reducible repeat (first|apply Kd.R_alloc|apply Kd.R_drewN|apply Kd.R_drew));exact Ma.out,pB_ HB.out,by repeat (first|(with_reducible first|exact HK.out|apply Kept.alloc|apply Kept.drewN|apply Kept.drew|refine Kept.setCell ?_ (.inr Jb.out) _|refine Kept.setCell ?_ (.inr Mb.out) _)|exact HK.out)⟩
     ·rw [if_neg ac] at H
      exact absurd H (by simp)
    ·rw [if_neg ab] at H
     exact absurd H (by simp)
end Go.Proofs.Yteahaehbciccmaa.PFnPutDrop
