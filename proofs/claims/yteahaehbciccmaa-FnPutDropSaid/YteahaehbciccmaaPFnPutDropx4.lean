-- by a program of this session's, over the kit's words
import Derived.Test.YteahaehbciccmaaPZFnPutDrop
import Derived.Test.YteahaehbciccmaaPFnPutDropx0
import Derived.Test.YteahaehbciccmaaPFnPutDropx1
import Derived.Test.YteahaehbciccmaaPFnPutDropx3
namespace Go.Proofs.Yteahaehbciccmaa.PFnPutDrop
open Go.RowKit Go.Proofs.YteahaehbciccmaaW.PrintWords Go.Proofs.YteahaehbciccmaaW.PrintLast Go.Proofs.YteahaehbciccmaaW.PrintMore Go.Proofs.YteahaehbciccmaaV Go.Proofs.Yteahaehbciccmaa.ZFnPutDrop
open Go.Value renaming int → I, slice → Y
open Go.IntKind renaming i64 → L
open Aside0 renaming mk → D
open Option renaming bind_eq_some_iff → bs_
attribute [local go_sem] qad_ qab_ qak_ qaj_ q4_ q3_ qac_ qaa_
set_option linter.unusedVariables false
set_option linter.unusedSimpArgs false
set_option maxHeartbeats 8000000
set_option maxRecDepth 100000
attribute [local go_sem high] eqA32
def spec_l11Place.l0:Nat→Int→Int→List (S52)→Int→Int→Int→Int→Int→Int→Int→Int→Int→Int→Int→Int→Int→Int→Option (Int)
 | 0,_,_,_,_,_,_,_,_,_,_,_,_,_,_,_,_,_=>none
 | k+1,x5,r,a,b,c,d,e,g,h,i,j,l,m,n,o,p,q=>if x5 < (a.length:Int) then (if 0≤x5 then (if (qa_ a x5).f0=true then (if (((qa_ a x5).f1.f0) == b && (((((qa_ a x5).f1.f1.f0.f0) == c && (((qa_ a x5).f1.f1.f0.f1) == d && (((qa_ a x5).f1.f1.f0.f2) == e && (((qa_ a x5).f1.f1.f0.f3) == g && (((qa_ a x5).f1.f1.f0.f4) == h))))) && ((((qa_ a x5).f1.f1.f1.f0) == i && (((qa_ a x5).f1.f1.f1.f1) == j && (((qa_ a x5).f1.f1.f1.f2) == l && (((qa_ a x5).f1.f1.f1.f3) == m && (((qa_ a x5).f1.f1.f1.f4) == n))))) && (((qa_ a x5).f1.f1.f2) == o && (((qa_ a x5).f1.f1.f3) == p && (((qa_ a x5).f1.f1.f4) == q)))))))=true then (some x5) else (spec_l11Place.l0 k (wrap64 (x5+1)) r a b c d e g h i j l m n o p q)) else (spec_l11Place.l0 k (wrap64 (x5+1)) r a b c d e g h i j l m n o p q)) else (none)) else (some (-1))
def spec_l11Place.f (k:Nat) (a:Int) (b:List (S52)) (c d e g h i j l m n o p q r:Int):Option (Int):=spec_l11Place.l0 k 0 a b c d e g h i j l m n o p q r
theorem spec_l11Place.calls (k:Nat) (y:Int) (E:Option Addr) (G:Nat) (b:List (S52)) (c d g i j l m n o p q s u v r:Int) (w:World) (ap:Kd.C k52 w E b.length b) (aq:b.length≤G) (h:spec_l11Place.f k y b c d g i j l m n o p q s u v=some r) :
  Calls Try.prog 19 #[.agg #[I L y,Y E b.length G],.agg #[I L c,I L d,I L g,I L i,I L j,I L l,I L m,I L n,I L o,I L p,I L q,I L s,I L u,I L v]] w fun e w'=>e=.returned (I L r)∧Below w.heap.size w w':=by
 have hu26:=Try.underlying26
 have hu32:=Try.underlying32
 have ai:=D ap
 have aT:=D aq
 clear ap aq
 have HB:=D (Below.refl w.heap.size w)
 have H:(spec_l11Place.l0 k 0 y b c d g i j l m n o p q s u v)=some r:=h
 clear h
 have H':=D H
 clear H
 go_enter Try.func19,Try.ntmps19
 go_wp2_with (first|((with_reducible refine gld_ 32 rfl ?_);(first|refine qm_ ?_|refine la32_ ?_))|((with_reducible refine gld_ 4 rfl ?_);refine lc4_ ?_)|((with_reducible refine gst_ 32 rfl ?_);refine sa32_ ?_)|((with_reducible refine qg_ (N:=2) rfl ?_);refine bx_ (N:=2) (cs:=#[I L y,Y E b.length G]) (t:=26) ?_;intro Ka hg w3 hbox hb;have n_:=an_ (qc_ (pB_ HB.out) hb)<|an_ (hbox)<|an_ (bg_ hg (pB_ HB.out):w.heap.size≤Ka)<|D (bg_ hg (pB_ HB.out):w.heap.size≤Ka);clear HB;obtain ⟨HB,Ja,Jb,Kb⟩:=n_;clear hb hbox hg)|((with_reducible refine qg_ (N:=3) rfl ?_);refine bx_ (N:=3) (cs:=#[I L c,I L d,I L g,I L i,I L j,I L l,I L m,I L n,I L o,I L p,I L q,I L s,I L u,I L v]) (t:=32) ?_;intro Ma hg w4 hbox hb;have n_:=an_ (qb_ (pk_ Ja.out) hb)<|an_ (qc_ (pB_ HB.out) hb)<|an_ (hbox)<|an_ (bg_ hg (pB_ HB.out):w.heap.size≤Ma)<|an_ (bg_ hg (pB_ HB.out):w.heap.size≤Ma)<|an_ (nl_ hg (pk_ Ja.out):Ka≠Ma)<|D (by rw [hg];exact Nat.ne_of_gt (qz_ (pk_ Ja.out)):Ma≠Ka);clear Ja HB;obtain ⟨Ja,HB,Oa,Mb,Ob,Ua,Xa⟩:=n_;clear hb hbox hg))
 repeat (go_quiet (first|((with_reducible refine qg_ (N:=2) rfl ?_);refine bx_ (N:=2) (cs:=#[I L y,Y E b.length G]) (t:=26) ?_;intro Ka hg w3 hbox hb;have n_:=an_ (qc_ (pB_ HB.out) hb)<|an_ (hbox)<|an_ (bg_ hg (pB_ HB.out):w.heap.size≤Ka)<|D (bg_ hg (pB_ HB.out):w.heap.size≤Ka);clear HB;obtain ⟨HB,Ja,Jb,Kb⟩:=n_;clear hb hbox hg)|((with_reducible refine qg_ (N:=3) rfl ?_);refine bx_ (N:=3) (cs:=#[I L c,I L d,I L g,I L i,I L j,I L l,I L m,I L n,I L o,I L p,I L q,I L s,I L u,I L v]) (t:=32) ?_;intro Ma hg w4 hbox hb;have n_:=an_ (qb_ (pk_ Ja.out) hb)<|an_ (qc_ (pB_ HB.out) hb)<|an_ (hbox)<|an_ (bg_ hg (pB_ HB.out):w.heap.size≤Ma)<|an_ (bg_ hg (pB_ HB.out):w.heap.size≤Ma)<|an_ (nl_ hg (pk_ Ja.out):Ka≠Ma)<|D (by rw [hg];exact Nat.ne_of_gt (qz_ (pk_ Ja.out)):Ma≠Ka);clear Ja HB;obtain ⟨Ja,HB,Oa,Mb,Ob,Ua,Xa⟩:=n_;clear hb hbox hg));try go_wp2_with (first|((with_reducible refine gld_ 32 rfl ?_);(first|refine qm_ ?_|refine la32_ ?_))|((with_reducible refine gld_ 4 rfl ?_);refine lc4_ ?_)|((with_reducible refine gst_ 32 rfl ?_);refine sa32_ ?_)|((with_reducible refine qg_ (N:=2) rfl ?_);refine bx_ (N:=2) (cs:=#[I L y,Y E b.length G]) (t:=26) ?_;intro Ka hg w3 hbox hb;have n_:=an_ (qc_ (pB_ HB.out) hb)<|an_ (hbox)<|an_ (bg_ hg (pB_ HB.out):w.heap.size≤Ka)<|D (bg_ hg (pB_ HB.out):w.heap.size≤Ka);clear HB;obtain ⟨HB,Ja,Jb,Kb⟩:=n_;clear hb hbox hg)|((with_reducible refine qg_ (N:=3) rfl ?_);refine bx_ (N:=3) (cs:=#[I L c,I L d,I L g,I L i,I L j,I L l,I L m,I L n,I L o,I L p,I L q,I L s,I L u,I L v]) (t:=32) ?_;intro Ma hg w4 hbox hb;have n_:=an_ (qb_ (pk_ Ja.out) hb)<|an_ (qc_ (pB_ HB.out) hb)<|an_ (hbox)<|an_ (bg_ hg (pB_ HB.out):w.heap.size≤Ma)<|an_ (bg_ hg (pB_ HB.out):w.heap.size≤Ma)<|an_ (nl_ hg (pk_ Ja.out):Ka≠Ma)<|D (by rw [hg];exact Nat.ne_of_gt (qz_ (pk_ Ja.out)):Ma≠Ka);clear Ja HB;obtain ⟨Ja,HB,Oa,Mb,Ob,Ua,Xa⟩:=n_;clear hb hbox hg)))
 go_loopg [5] k (fun kq v5 w'=>∃ (a:Int),v5=I L a∧Aside0 (spec_l11Place.l0 kq a y b c d g i j l m n o p q s u v=some r)∧Aside0 (kq≤k)∧Aside0 (w'.heap[Ka]?=some (.cells #[I L y,(Y E b.length G)] 26 (0,0)))∧Aside0 (w'.heap[Ma]?=some (.cells #[I L c,I L d,I L g,I L i,I L j,I L l,I L m,I L n,I L o,I L p,I L q,I L s,I L u,I L v] 32 (0,0)))∧Aside0 (Below w.heap.size w w'))
 case atStart=>exact ⟨(0),Z35,H',⟨Nat.le_refl _⟩,⟨pk_ Ja.out⟩,⟨pk_ Oa.out⟩,⟨pB_ HB.out⟩⟩
 case round =>
  clear H'
  (try clear c1);(try clear p2)
  obtain ⟨a,rfl,HA,ag,Ja,Oa,HB⟩:=hrel
  cases gk with
  | zero=>exact absurd HA.out (by simp [spec_l11Place.l0])
  | succ k1 =>
   have H:=HA.out;clear HA;simp only [spec_l11Place.l0] at H
   by_cases c5:a < (b.length:Int)
   ·rw [if_pos c5] at H
    have aN:decide (a < (b.length:Int))=true:=decide_eq_true c5;clear c5
    by_cases c6:0≤a
    ·rw [if_pos c6] at H
     have aW:decide (0≤a)=true:=decide_eq_true c6;clear c6;obtain ⟨av,aj⟩:∃ b_:Bool,b_=((qa_ b a).f0):=⟨_,rfl⟩
     replace H:(if av=true then (if (((qa_ b a).f1.f0) == c && (((((qa_ b a).f1.f1.f0.f0) == d && (((qa_ b a).f1.f1.f0.f1) == g && (((qa_ b a).f1.f1.f0.f2) == i && (((qa_ b a).f1.f1.f0.f3) == j && (((qa_ b a).f1.f1.f0.f4) == l))))) && ((((qa_ b a).f1.f1.f1.f0) == m && (((qa_ b a).f1.f1.f1.f1) == n && (((qa_ b a).f1.f1.f1.f2) == o && (((qa_ b a).f1.f1.f1.f3) == p && (((qa_ b a).f1.f1.f1.f4) == q))))) && (((qa_ b a).f1.f1.f2) == s && (((qa_ b a).f1.f1.f3) == u && (((qa_ b a).f1.f1.f4) == v)))))))=true then (some a) else (spec_l11Place.l0 k1 (wrap64 (a+1)) y b c d g i j l m n o p q s u v)) else (spec_l11Place.l0 k1 (wrap64 (a+1)) y b c d g i j l m n o p q s u v))=some r:=by rw [← aj] at H;exact H
     have J:=D aj;clear aj
     by_cases c8:av=true
     ·subst c8
      rw [if_pos rfl] at H;have aw:=D H;clear H;(try have:=Ua.out);(try have:=Xa.out);have Ub:=ql_ Ja.out;have z:0≤(a:Int):=od_ Z22;have A:a < (b.length:Int):=od_ Z22;obtain ⟨ax,ak,B,K,M,O,P,T,U,W,X,Z,aa,ab,ac,ad,ae,af⟩:=at_T52 ai.out a z A;(try rw [← J.out] at B);(try rw [← J.out] at aO);cases ak;replace B:=rc_ HB.out B;replace K:=rc_ HB.out K;replace M:=rc_ HB.out M;replace O:=rc_ HB.out O;replace P:=rc_ HB.out P;replace T:=rc_ HB.out T;replace U:=rc_ HB.out U;replace W:=rc_ HB.out W;replace X:=rc_ HB.out X;replace Z:=rc_ HB.out Z;replace aa:=rc_ HB.out aa;replace ab:=rc_ HB.out ab;replace ac:=rc_ HB.out ac;replace ad:=rc_ HB.out ad;replace ae:=rc_ HB.out ae;replace af:=rc_ HB.out af;replace z:=eq_true z;replace A:=eq_true A;have al:0≤(a:Int):=od_ Z22;have am:a < (b.length:Int):=od_ Z22;obtain ⟨aP,aQ,an,ay,az,aA,aB,aC,aD,aE,aF,aG,aH,aI,aJ,aK,aL,aM⟩:=at_T52 ai.out a al am;(try rw [← J.out] at an);(try rw [← J.out] at aX);obtain rfl:ax=aP:=(by injection aQ);replace an:=rc_ HB.out an;replace ay:=rc_ HB.out ay;replace az:=rc_ HB.out az;replace aA:=rc_ HB.out aA;replace aB:=rc_ HB.out aB;replace aC:=rc_ HB.out aC;replace aD:=rc_ HB.out aD;replace aE:=rc_ HB.out aE;replace aF:=rc_ HB.out aF;replace aG:=rc_ HB.out aG;replace aH:=rc_ HB.out aH;replace aI:=rc_ HB.out aI;replace aJ:=rc_ HB.out aJ;replace aK:=rc_ HB.out aK;replace aL:=rc_ HB.out aL;replace aM:=rc_ HB.out aM;replace al:=eq_true al;replace am:=eq_true am;obtain ⟨Mc,Oc,Uc,Xc,Jd,Md,Od,Ud,Xd,Je,Ke,Me,Oe,Ue,Xe,Jf,Kf,Mf,Of,Uf,Xf,Jg,Kg,Mg,Og,Ug,Xg,Jh⟩:=cells14 Oa.out
      go_upto_if 28 with (first|((with_reducible refine gld_ 32 rfl ?_);(first|refine qm_ ?_|refine la32_ ?_))|((with_reducible refine gld_ 4 rfl ?_);refine lc4_ ?_)|((with_reducible refine gst_ 32 rfl ?_);refine sa32_ ?_))
      repeat (go_quiet (fail);go_upto_if 28 with (first|((with_reducible refine gld_ 32 rfl ?_);(first|refine qm_ ?_|refine la32_ ?_))|((with_reducible refine gld_ 4 rfl ?_);refine lc4_ ?_)|((with_reducible refine gst_ 32 rfl ?_);refine sa32_ ?_)))
      have H:=aw.out;clear aw
      by_cases x:(((qa_ b a).f1.f0) == c && (((((qa_ b a).f1.f1.f0.f0) == d && (((qa_ b a).f1.f1.f0.f1) == g && (((qa_ b a).f1.f1.f0.f2) == i && (((qa_ b a).f1.f1.f0.f3) == j && (((qa_ b a).f1.f1.f0.f4) == l))))) && ((((qa_ b a).f1.f1.f1.f0) == m && (((qa_ b a).f1.f1.f1.f1) == n && (((qa_ b a).f1.f1.f1.f2) == o && (((qa_ b a).f1.f1.f1.f3) == p && (((qa_ b a).f1.f1.f1.f4) == q))))) && (((qa_ b a).f1.f1.f2) == s && (((qa_ b a).f1.f1.f3) == u && (((qa_ b a).f1.f1.f4) == v)))))))=true
      ·rw [if_pos x] at H
       have ao:(((qa_ b a).f1.f0) == c && (((((qa_ b a).f1.f1.f0.f0) == d && (((qa_ b a).f1.f1.f0.f1) == g && (((qa_ b a).f1.f1.f0.f2) == i && (((qa_ b a).f1.f1.f0.f3) == j && (((qa_ b a).f1.f1.f0.f4) == l))))) && ((((qa_ b a).f1.f1.f1.f0) == m && (((qa_ b a).f1.f1.f1.f1) == n && (((qa_ b a).f1.f1.f1.f2) == o && (((qa_ b a).f1.f1.f1.f3) == p && (((qa_ b a).f1.f1.f1.f4) == q))))) && (((qa_ b a).f1.f1.f2) == s && (((qa_ b a).f1.f1.f3) == u && (((qa_ b a).f1.f1.f4) == v)))))))=true:=x;(try (have aR:decide (((qa_ b a).f1.f0)=c && (((((qa_ b a).f1.f1.f0.f0) == d && (((qa_ b a).f1.f1.f0.f1) == g && (((qa_ b a).f1.f1.f0.f2) == i && (((qa_ b a).f1.f1.f0.f3) == j && (((qa_ b a).f1.f1.f0.f4) == l))))) && ((((qa_ b a).f1.f1.f1.f0) == m && (((qa_ b a).f1.f1.f1.f1) == n && (((qa_ b a).f1.f1.f1.f2) == o && (((qa_ b a).f1.f1.f1.f3) == p && (((qa_ b a).f1.f1.f1.f4) == q))))) && (((qa_ b a).f1.f1.f2) == s && (((qa_ b a).f1.f1.f3) == u && (((qa_ b a).f1.f1.f4) == v)))))))=true:=by simpa using x));(try (have aS:(((qa_ b a).f1.f0) == c && (((((qa_ b a).f1.f1.f0.f0) == d && (((qa_ b a).f1.f1.f0.f1) == g && (((qa_ b a).f1.f1.f0.f2) == i && (((qa_ b a).f1.f1.f0.f3) == j && (((qa_ b a).f1.f1.f0.f4) == l))))) && ((((qa_ b a).f1.f1.f1.f0) == m && (((qa_ b a).f1.f1.f1.f1) == n && (((qa_ b a).f1.f1.f1.f2) == o && (((qa_ b a).f1.f1.f1.f3) == p && (((qa_ b a).f1.f1.f1.f4) == q))))) && (((qa_ b a).f1.f1.f2) == s && (((qa_ b a).f1.f1.f3) == u && (((qa_ b a).f1.f1.f4) == v)))))))=true:=by simpa using x));clear x;refine rw_ ao ?_;obtain rfl:=Option.some.inj H
       go_wp2_with (first|((with_reducible refine gld_ 32 rfl ?_);(first|refine qm_ ?_|refine la32_ ?_))|((with_reducible refine gld_ 4 rfl ?_);refine lc4_ ?_)|((with_reducible refine gst_ 32 rfl ?_);refine sa32_ ?_))
       repeat (go_quiet (fail);try go_wp2_with (first|((with_reducible refine gld_ 32 rfl ?_);(first|refine qm_ ?_|refine la32_ ?_))|((with_reducible refine gld_ 4 rfl ?_);refine lc4_ ?_)|((with_reducible refine gst_ 32 rfl ?_);refine sa32_ ?_)))
       go_ret;exact ⟨er_,pB_ HB.out⟩
      ·rw [if_neg x] at H
       have ao:(((qa_ b a).f1.f0) == c && (((((qa_ b a).f1.f1.f0.f0) == d && (((qa_ b a).f1.f1.f0.f1) == g && (((qa_ b a).f1.f1.f0.f2) == i && (((qa_ b a).f1.f1.f0.f3) == j && (((qa_ b a).f1.f1.f0.f4) == l))))) && ((((qa_ b a).f1.f1.f1.f0) == m && (((qa_ b a).f1.f1.f1.f1) == n && (((qa_ b a).f1.f1.f1.f2) == o && (((qa_ b a).f1.f1.f1.f3) == p && (((qa_ b a).f1.f1.f1.f4) == q))))) && (((qa_ b a).f1.f1.f2) == s && (((qa_ b a).f1.f1.f3) == u && (((qa_ b a).f1.f1.f4) == v)))))))=false:=by simpa using x
       (try (have aR:decide (((qa_ b a).f1.f0)=c && (((((qa_ b a).f1.f1.f0.f0) == d && (((qa_ b a).f1.f1.f0.f1) == g && (((qa_ b a).f1.f1.f0.f2) == i && (((qa_ b a).f1.f1.f0.f3) == j && (((qa_ b a).f1.f1.f0.f4) == l))))) && ((((qa_ b a).f1.f1.f1.f0) == m && (((qa_ b a).f1.f1.f1.f1) == n && (((qa_ b a).f1.f1.f1.f2) == o && (((qa_ b a).f1.f1.f1.f3) == p && (((qa_ b a).f1.f1.f1.f4) == q))))) && (((qa_ b a).f1.f1.f2) == s && (((qa_ b a).f1.f1.f3) == u && (((qa_ b a).f1.f1.f4) == v)))))))=false:=by simpa using x));(try (have aS:(((qa_ b a).f1.f0) == c && (((((qa_ b a).f1.f1.f0.f0) == d && (((qa_ b a).f1.f1.f0.f1) == g && (((qa_ b a).f1.f1.f0.f2) == i && (((qa_ b a).f1.f1.f0.f3) == j && (((qa_ b a).f1.f1.f0.f4) == l))))) && ((((qa_ b a).f1.f1.f1.f0) == m && (((qa_ b a).f1.f1.f1.f1) == n && (((qa_ b a).f1.f1.f1.f2) == o && (((qa_ b a).f1.f1.f1.f3) == p && (((qa_ b a).f1.f1.f1.f4) == q))))) && (((qa_ b a).f1.f1.f2) == s && (((qa_ b a).f1.f1.f3) == u && (((qa_ b a).f1.f1.f4) == v)))))))=false:=by simpa using x));(try (have aY:¬ (((qa_ b a).f1.f0)=c && (((((qa_ b a).f1.f1.f0.f0) == d && (((qa_ b a).f1.f1.f0.f1) == g && (((qa_ b a).f1.f1.f0.f2) == i && (((qa_ b a).f1.f1.f0.f3) == j && (((qa_ b a).f1.f1.f0.f4) == l))))) && ((((qa_ b a).f1.f1.f1.f0) == m && (((qa_ b a).f1.f1.f1.f1) == n && (((qa_ b a).f1.f1.f1.f2) == o && (((qa_ b a).f1.f1.f1.f3) == p && (((qa_ b a).f1.f1.f1.f4) == q))))) && (((qa_ b a).f1.f1.f2) == s && (((qa_ b a).f1.f1.f3) == u && (((qa_ b a).f1.f1.f4) == v))))))):=by simpa using x));clear x;refine rw_ ao ?_;have H':=D H;clear H
       go_wp2_with (first|((with_reducible refine gld_ 32 rfl ?_);(first|refine qm_ ?_|refine la32_ ?_))|((with_reducible refine gld_ 4 rfl ?_);refine lc4_ ?_)|((with_reducible refine gst_ 32 rfl ?_);refine sa32_ ?_))
       repeat (go_quiet (fail);try go_wp2_with (first|((with_reducible refine gld_ 32 rfl ?_);(first|refine qm_ ?_|refine la32_ ?_))|((with_reducible refine gld_ 4 rfl ?_);refine lc4_ ?_)|((with_reducible refine gst_ 32 rfl ?_);refine sa32_ ?_)))
       go_roundg k1
       case measure=>have:=ag.out;omega
       case rel=>exact ⟨(wrap64 (a+1)),Z35,H',⟨by have:=ag.out;omega⟩,⟨pk_ Ja.out⟩,⟨pk_ Oa.out⟩,⟨pB_ HB.out⟩⟩
     ·replace c8:=Bool.eq_false_iff.mpr c8
      subst c8;rw [if_neg (show ¬ (false=true) by decide)] at H;have H':=D H;clear H;(try have:=Ua.out);(try have:=Xa.out);have Kh:=ql_ Ja.out;have z:0≤(a:Int):=od_ Z22;have A:a < (b.length:Int):=od_ Z22;obtain ⟨ax,ak,B,K,M,O,P,T,U,W,X,Z,aa,ab,ac,ad,ae,af⟩:=at_T52 ai.out a z A;(try rw [← J.out] at B);(try rw [← J.out] at aO);cases ak;replace B:=rc_ HB.out B;replace K:=rc_ HB.out K;replace M:=rc_ HB.out M;replace O:=rc_ HB.out O;replace P:=rc_ HB.out P;replace T:=rc_ HB.out T;replace U:=rc_ HB.out U;replace W:=rc_ HB.out W;replace X:=rc_ HB.out X;replace Z:=rc_ HB.out Z;replace aa:=rc_ HB.out aa;replace ab:=rc_ HB.out ab;replace ac:=rc_ HB.out ac;replace ad:=rc_ HB.out ad;replace ae:=rc_ HB.out ae;replace af:=rc_ HB.out af;replace z:=eq_true z;replace A:=eq_true A
      go_wp2_with (first|((with_reducible refine gld_ 32 rfl ?_);(first|refine qm_ ?_|refine la32_ ?_))|((with_reducible refine gld_ 4 rfl ?_);refine lc4_ ?_)|((with_reducible refine gst_ 32 rfl ?_);refine sa32_ ?_))
      repeat (go_quiet (fail);try go_wp2_with (first|((with_reducible refine gld_ 32 rfl ?_);(first|refine qm_ ?_|refine la32_ ?_))|((with_reducible refine gld_ 4 rfl ?_);refine lc4_ ?_)|((with_reducible refine gst_ 32 rfl ?_);refine sa32_ ?_)))
      go_roundg k1
      case measure=>have:=ag.out;omega
      case rel=>exact ⟨(wrap64 (a+1)),Z35,H',⟨by have:=ag.out;omega⟩,⟨pk_ Ja.out⟩,⟨pk_ Oa.out⟩,⟨pB_ HB.out⟩⟩
    ·rw [if_neg c6] at H
     exact absurd H (by simp)
   ·rw [if_neg c5] at H
    have aN:decide (a < (b.length:Int))=false:=decide_eq_false c5;clear c5;obtain rfl:=Option.some.inj H;(try have:=Ua.out);(try have:=Xa.out);have Xh:=ql_ Ja.out
    go_wp2_with (first|((with_reducible refine gld_ 32 rfl ?_);(first|refine qm_ ?_|refine la32_ ?_))|((with_reducible refine gld_ 4 rfl ?_);refine lc4_ ?_)|((with_reducible refine gst_ 32 rfl ?_);refine sa32_ ?_))
    repeat (go_quiet (fail);try go_wp2_with (first|((with_reducible refine gld_ 32 rfl ?_);(first|refine qm_ ?_|refine la32_ ?_))|((with_reducible refine gld_ 4 rfl ?_);refine lc4_ ?_)|((with_reducible refine gst_ 32 rfl ?_);refine sa32_ ?_)))
    go_ret;exact ⟨er_,pB_ HB.out⟩
def spec_l11Count.l0:Nat→Int→Int→Int→List (S52)→Option (Int)
 | 0,_,_,_,_=>none
 | k+1,x3,x4,b,a=>if x4 < (a.length:Int) then (if 0≤x4 then (if (qa_ a x4).f0=true then (spec_l11Count.l0 k (wrap64 (x3+1)) (wrap64 (x4+1)) b a) else (spec_l11Count.l0 k x3 (wrap64 (x4+1)) b a)) else (none)) else (some x3)
def spec_l11Count.f (k:Nat) (a:Int) (b:List (S52)):Option (Int):=spec_l11Count.l0 k 0 0 a b
theorem spec_l11Count.calls (k:Nat) (c:Int) (i:Option Addr) (j:Nat) (a:List (S52)) (r:Int) (w:World) (s:Kd.C k52 w i a.length a) (u:a.length≤j) (h:spec_l11Count.f k c a=some r) :
  Calls Try.prog 21 #[.agg #[I L c,Y i a.length j]] w fun e w'=>e=.returned (I L r)∧Below w.heap.size w w':=by
 have hu26:=Try.underlying26
 have aa:=D s
 have ae:=D u
 clear s u
 have HB:=D (Below.refl w.heap.size w)
 have H:(spec_l11Count.l0 k 0 0 c a)=some r:=h
 clear h
 have H':=D H
 clear H
 go_enter Try.func21,Try.ntmps21
 go_wp2_with (first|((with_reducible refine qg_ (N:=1) rfl ?_);refine bx_ (N:=1) (cs:=#[I L c,Y i a.length j]) (t:=26) ?_;intro n hg w2 hbox hb;have n_:=an_ (qc_ (pB_ HB.out) hb)<|an_ (hbox)<|an_ (bg_ hg (pB_ HB.out):w.heap.size≤n)<|D (bg_ hg (pB_ HB.out):w.heap.size≤n);clear HB;obtain ⟨HB,g,ag,ah⟩:=n_;clear hb hbox hg))
 go_loopg [3,4] k (fun kq v3 v4 w'=>∃ (d:Int) (b:Int),v3=I L d∧v4=I L b∧Aside0 (spec_l11Count.l0 kq d b c a=some r)∧Aside0 (kq≤k)∧Aside0 (w'.heap[n]?=some (.cells #[I L c,(Y i a.length j)] 26 (0,0)))∧Aside0 (Below w.heap.size w w'))
 case atStart=>exact ⟨(0),(0),Z35,Z35,H',⟨Nat.le_refl _⟩,⟨pk_ g.out⟩,⟨pB_ HB.out⟩⟩
 case round =>
  clear H'
  (try clear c2);(try clear p2)
  obtain ⟨d,b,rfl,rfl,HA,l,g,HB⟩:=hrel
  cases gk with
  | zero=>exact absurd HA.out (by simp [spec_l11Count.l0])
  | succ m =>
   have H:=HA.out;clear HA;simp only [spec_l11Count.l0] at H
   by_cases c3:b < (a.length:Int)
   ·rw [if_pos c3] at H
    have ab:decide (b < (a.length:Int))=true:=decide_eq_true c3;clear c3
    by_cases c4:0≤b
    ·rw [if_pos c4] at H
     have aj:decide (0≤b)=true:=decide_eq_true c4;clear c4;have v:=D H;clear H;have ak:=ql_ g.out;have o:0≤(b:Int):=od_ Z22;have p:b < (a.length:Int):=od_ Z22;obtain ⟨al,ac,x,y,z,A,B,E,G,J,K,M,O,P,T,U,W,X⟩:=at_T52 aa.out b o p;cases ac;replace x:=rc_ HB.out x;replace y:=rc_ HB.out y;replace z:=rc_ HB.out z;replace A:=rc_ HB.out A;replace B:=rc_ HB.out B;replace E:=rc_ HB.out E;replace G:=rc_ HB.out G;replace J:=rc_ HB.out J;replace K:=rc_ HB.out K;replace M:=rc_ HB.out M;replace O:=rc_ HB.out O;replace P:=rc_ HB.out P;replace T:=rc_ HB.out T;replace U:=rc_ HB.out U;replace W:=rc_ HB.out W;replace X:=rc_ HB.out X;replace o:=eq_true o;replace p:=eq_true p
     go_upto_if 17 with (fail)
     have H:=v.out;clear v;obtain ⟨Z,q⟩:∃ b_:Bool,b_=((qa_ a b).f0):=⟨_,rfl⟩
     replace H:(if Z=true then (spec_l11Count.l0 m (wrap64 (d+1)) (wrap64 (b+1)) c a) else (spec_l11Count.l0 m d (wrap64 (b+1)) c a))=some r:=by rw [← q] at H;exact H
     have ad:=D q;clear q;(try rw [← ad.out])
     by_cases c8:Z=true
     ·subst c8
      rw [if_pos rfl] at H;have H':=D H;clear H
      go_wp2
      go_roundg m
      case measure=>have:=l.out;omega
      case rel=>exact ⟨(wrap64 (d+1)),(wrap64 (b+1)),Z35,Z35,H',⟨by have:=l.out;omega⟩,⟨pk_ g.out⟩,⟨pB_ HB.out⟩⟩
     ·replace c8:=Bool.eq_false_iff.mpr c8
      subst c8;rw [if_neg (show ¬ (false=true) by decide)] at H;have H':=D H;clear H
      go_wp2
      go_roundg m
      case measure=>have:=l.out;omega
      case rel=>exact ⟨(d),(wrap64 (b+1)),Z35,Z35,H',⟨by have:=l.out;omega⟩,⟨pk_ g.out⟩,⟨pB_ HB.out⟩⟩
    ·rw [if_neg c4] at H
     exact absurd H (by simp)
   ·rw [if_neg c3] at H
    have ab:decide (b < (a.length:Int))=false:=decide_eq_false c3;clear c3;obtain rfl:=Option.some.inj H;obtain ⟨am,an,ao,ap⟩:=ql_ g.out
    go_wp2
    go_ret;exact ⟨er_,pB_ HB.out⟩
def spec_l01Low.f (a0 a1:Int):Option (Int):=if a1=0 then (none) else (if (Int.tmod a0 a1) < 0 then (some (wrap64 ((Int.tmod a0 a1)+a1))) else (some (Int.tmod a0 a1)))
theorem spec_l01Low.calls (a0 a1 r:Int) (w:World) (h:spec_l01Low.f a0 a1=some r) :
  Calls Try.prog 70 #[I L a0,I L a1] w fun e w'=>e=.returned (I L r)∧Drawn0 w w':=by
 have H:(if a1=0 then (none) else (if (Int.tmod a0 a1) < 0 then (some (wrap64 ((Int.tmod a0 a1)+a1))) else (some (Int.tmod a0 a1))))=some r:=h
 clear h
 by_cases c3:a1=0
 ·rw [if_pos c3] at H
  exact absurd H (by simp)
 ·rw [if_neg c3] at H
  have b:(a1 == 0)=false:=beq_eq_false_iff_ne.mpr c3;have c:(a1 != 0)=true:=bne_iff_ne.mpr c3
  by_cases c4:(Int.tmod a0 a1) < 0
  ·rw [if_pos c4] at H
   have a:decide ((Int.tmod a0 a1) < 0)=true:=decide_eq_true c4;clear c4;obtain rfl:=Option.some.inj H;go_enter Try.func70,Try.ntmps70
   go_wp2
   go_ret;exact ⟨by first | rfl | (simp;done) | (simp [*];done),by repeat (first | exact Drawn0.refl _ | apply Drawn0.step)⟩
  ·rw [if_neg c4] at H
   have a:decide ((Int.tmod a0 a1) < 0)=false:=decide_eq_false c4;clear c4;obtain rfl:=Option.some.inj H;go_enter Try.func70,Try.ntmps70
   go_wp2
   go_ret;exact ⟨by first | rfl | (simp;done) | (simp [*];done),by repeat (first | exact Drawn0.refl _ | apply Drawn0.step)⟩
def spec_Put16.f (a0:Int):Option (List Int):=(spec_l01Low.f a0 65536).bind fun a=>(some (([(wrap64 (Int.tdiv a 256)) % 256,(Int.tmod a 256) % 256]:List Int)))
theorem spec_Put16.calls (a0:Int) (r:List Int) (w:World) (h:spec_Put16.f a0=some r) :
  Calls Try.prog 66 #[I L a0] w fun e w'=>∃ d:Value,e=.returned (d)∧Kd.R (Kd.int .u8) 5 w' w.heap.size (fun _=>True) d r∧Below w.heap.size w w':=by
 have HB:=D (Below.refl w.heap.size w)
 have H:((spec_l01Low.f a0 65536).bind fun a=>(some (([(wrap64 (Int.tdiv a 256)) % 256,(Int.tmod a 256) % 256]:List Int))))=some r:=h
 clear h
 obtain ⟨a,g,H⟩:=bs_.mp H
 (try dsimp only at H)
 have j:=D g
 clear g
 obtain ⟨k,b⟩:∃ y_:List Int,y_=(([(wrap64 (Int.tdiv a 256)) % 256,(Int.tmod a 256) % 256]:List Int)):=⟨_,rfl⟩
 replace H:(some k)=some r:=by first|(rw [b];with_reducible exact H)|(have H2_:=(Option.bind_some _ _).symm.trans H;rw [b];with_reducible exact H2_)|(have H2_:=(Option.bind_some _ _).symm.trans H;with_reducible exact H2_)|with_reducible exact H|(rw [b];exact H)|exact H
 have i:=D b
 clear b
 obtain rfl:=Option.some.inj H
 go_enter Try.func66,Try.ntmps66
 go_wp2_with (first|((with_reducible refine qd_ (f:=70) rfl ?_);refine qk_ (some 5) rfl rfl Try.func70 (by kernel_rfl) rfl #[I L a0,I L 65536] rfl Z12 ?_;(with_reducible refine (spec_l01Low.calls a0 65536 a _ j.out).mono ?_);rintro e w' ⟨rfl,⟨nd,rfl⟩⟩;refine ⟨_,rfl,?_⟩)|((with_reducible refine qg_ (N:=12) rfl ?_);refine Kd.R_lit (Kd.int .u8) _ 5 ?hg (N:=12) ?hd (xs:=([(wrap64 (Int.tdiv a 256)) % 256,(Int.tmod a 256) % 256]:List Int)) (inner:=[.int .u8 ((wrap64 (Int.tdiv a 256)) % 256),.int .u8 ((Int.tmod a 256) % 256)]) (ok:=fun _=>True) (okp:=fun _=>True) ?hr ?hp (fun _ hk=>hk) trivial (Below.refl _ _) (Nat.le_refl _) (by simp) ?_;(case hd=>rfl);(case hg=>rfl);(case hr=>first|(go_simp;done)|(go_simp;rfl));(case hp=>exact (Reps.one (show Kd.M (Kd.int .u8) _ _ _ ((wrap64 (Int.tdiv a 256)) % 256) [.int .u8 ((wrap64 (Int.tdiv a 256)) % 256)] from rfl) (Reps.one (show Kd.M (Kd.int .u8) _ _ _ ((Int.tmod a 256) % 256) [.int .u8 ((Int.tmod a 256) % 256)] from rfl) (Reps.none _ _))));intro m n c hb hg_ hnew_;clear hg_ hnew_;(first|rw [← i.out] at c|(simp only [Int.reduceToNat] at c;rw [← i.out] at c));have n_:=an_ (Kd.R_lower c (qh_ (pB_ HB.out)))<|D (qc_ (pB_ HB.out) hb);clear HB;obtain ⟨l,HB⟩:=n_;clear hb c))
 go_ret
 exact ⟨_,er_,by (with_reducible repeat (first|apply Kd.R_alloc|apply Kd.R_drewN|apply Kd.R_drew));exact l.out,pB_ HB.out⟩
def spec_Put32.f (a0:Int):Option (List Int):=(spec_l01Low.f a0 4294967296).bind fun a=>((spec_Put16.f (wrap64 (Int.tdiv a 65536))).bind fun b=>((spec_Put16.f (Int.tmod a 65536)).bind fun c=>(if b.length+c.length < 140737488355328 then (some (b ++ c)) else (none))))
theorem spec_Put32.calls (a0:Int) (r:List Int) (w:World) (h:spec_Put32.f a0=some r) :
  Calls Try.prog 69 #[I L a0] w fun e w'=>∃ l:Value,e=.returned (l)∧Kd.R (Kd.int .u8) 5 w' w.heap.size (fun _=>True) l r∧Below w.heap.size w w':=by
 have HB:=D (Below.refl w.heap.size w)
 have H:((spec_l01Low.f a0 4294967296).bind fun a=>((spec_Put16.f (wrap64 (Int.tdiv a 65536))).bind fun d=>((spec_Put16.f (Int.tmod a 65536)).bind fun c=>(if d.length+c.length < 140737488355328 then (some (d ++ c)) else (none)))))=some r:=h
 clear h
 obtain ⟨a,m,H⟩:=bs_.mp H
 (try dsimp only at H)
 have p:=D m
 clear m
 obtain ⟨d,n,H⟩:=bs_.mp H
 (try dsimp only at H)
 have q:=D n
 clear n
 obtain ⟨c,o,H⟩:=bs_.mp H
 (try dsimp only at H)
 have s:=D o
 clear o
 by_cases c5:d.length+c.length < 140737488355328
 ·rw [if_pos c5] at H
  have t:=D c5;clear c5;obtain ⟨u,k⟩:∃ y_:List Int,y_=(d ++ c):=⟨_,rfl⟩
  replace H:(some u)=some r:=by first|(rw [k];with_reducible exact H)|(have H2_:=(Option.bind_some _ _).symm.trans H;rw [k];with_reducible exact H2_)|(have H2_:=(Option.bind_some _ _).symm.trans H;with_reducible exact H2_)|with_reducible exact H|(rw [k];exact H)|exact H
  have v:=D k;clear k;obtain rfl:=Option.some.inj H;go_enter Try.func69,Try.ntmps69
  go_wp2_with (first|((with_reducible refine qd_ (f:=70) rfl ?_);refine qk_ (some 5) rfl rfl Try.func70 (by kernel_rfl) rfl #[I L a0,I L 4294967296] rfl Z12 ?_;(with_reducible refine (spec_l01Low.calls a0 4294967296 a _ p.out).mono ?_);rintro e w' ⟨rfl,⟨nd,rfl⟩⟩;refine ⟨_,rfl,?_⟩)|((with_reducible refine qd_ (f:=66) rfl ?_);refine qk_ (some 8) rfl rfl Try.func66 (by kernel_rfl) rfl #[I L (wrap64 (Int.tdiv a 65536))] rfl Z12 ?_;(with_reducible refine (spec_Put16.calls (wrap64 (Int.tdiv a 65536)) d _ q.out).mono ?_);rintro e A ⟨x,rfl,g,hb⟩;refine ⟨_,rfl,?_⟩;have n_:=an_ (Kd.R_lower g (qh_ (pB_ HB.out)))<|D (qc_ (pB_ HB.out) hb);clear HB;obtain ⟨i,HB⟩:=n_;(try clear hb);(try clear g))|((with_reducible refine qd_ (f:=66) rfl ?_);refine qk_ (some 11) rfl rfl Try.func66 (by kernel_rfl) rfl #[I L (Int.tmod a 65536)] rfl Z12 ?_;(with_reducible refine (spec_Put16.calls (Int.tmod a 65536) c _ s.out).mono ?_);rintro e B ⟨E,rfl,g,hb⟩;refine ⟨_,rfl,?_⟩;have n_:=an_ (Kd.R_elder' (pR_ i.out) (Kd.R_base g) hb)<|an_ (Kd.R_lower (nw_ g (pR_ i.out)) (qh_ (pB_ HB.out)))<|D (qc_ (pB_ HB.out) hb);clear i HB;obtain ⟨i,j,HB⟩:=n_;(try clear hb);(try clear g);obtain ⟨Ao9,co9,y⟩:=Kd.R_slice j.out;subst y)|((with_reducible refine gate_builtin (b:=.append) (xs:=#[.tmp 8,.tmp 11]) rfl ?_);at_builtin;refine Kd.R_append_rows (Kd.int .u8) (w0:=w) w.heap.size rfl (.tmp 8) (.tmp 11) 22 5 (.int .u8 0) 1 rfl Try.underlying22 info5 rfl (by decide) (by omega) x d c _ _ _ (fun k_=>some k_≠(Y Ao9 c.length co9:Value).ownBlock) (fun _=>False) rfl rfl ?aO ?aR (fun _ _ h=>h) (fun _ h=>h.elim) ?aF ?aB ?aS ?aL ?_;(case aR=>exact pC_ ((Kd.R_reads' j.out).2.2));(case aB=>exact (pB_ HB.out));(case aF=>exact (fun k_ hk=>Kd.fresh' (Kd.R_lt (pR_ j.out)) k_ hk));(case aO=>exact (pR_ (Kd.R_mono i.out (fun _ hk=>hk.2))));(case aS=>exact (qh_ (pB_ HB.out)));(case aL=>have:=t.out;omega);intro G J ho hb hg hat;rw [← v.out] at ho;have n_:=an_ (Kd.R_after (ok:=(fun _=>True)) (pR_ j.out) hg hat)<|an_ (hb)<|D (ho);clear j HB i;obtain ⟨j,HB,z⟩:=n_;clear ho hb hg hat))
  go_ret;exact ⟨_,er_,by (with_reducible repeat (first|apply Kd.R_alloc|apply Kd.R_drewN|apply Kd.R_drew));exact Kd.R_mono z.out (fun _ hk=>trivial),pB_ HB.out⟩
 ·rw [if_neg c5] at H
  exact absurd H (by simp)
def spec_AddrBytes.f (b c d e a:Int):Option (List Int):=(spec_AddrOk.f b c d e a).bind fun m=>(if m=true then (if b=4 then ((spec_Put32.f a).bind fun n=>(some n)) else ((spec_Put32.f c).bind fun g=>((spec_Put32.f d).bind fun h=>(if g.length+h.length < 140737488355328 then ((some (g ++ h:List Int)).bind fun i=>((spec_Put32.f e).bind fun j=>(if i.length+j.length < 140737488355328 then ((some (i ++ j:List Int)).bind fun k=>((spec_Put32.f a).bind fun l=>(if k.length+l.length < 140737488355328 then (some (k ++ l)) else (none)))) else (none)))) else (none))))) else (some ([]:List Int)))
def spec_AddrBytes.T5:Bool×List (List Nat×List Nat):=(true,[([],[]),([0],[0]),([1],[1]),([],[]),([3],[3]),([4,2],[4]),([2,5,5],[2,5]),([6,6,0,1,2,3,4,5,6],[6])])
def spec_AddrBytes.B5:List Nat:=[0,1,3,0,8,31,63,127]
theorem spec_AddrBytes.tab5:rtab .any (opsOf Try.f65 5)=spec_AddrBytes.T5:=by kernel_rfl
theorem spec_AddrBytes.bits5:q8_ spec_AddrBytes.T5.2 spec_AddrBytes.B5=true:=by kernel_rfl
def spec_AddrBytes.T6:Bool×List (List Nat×List Nat):=(true,[([],[]),([],[]),([1],[1]),([2],[2]),([0,3,3],[0,3]),([],[]),([5],[5]),([6,4],[6]),([4,7,7],[4,7]),([8,8,0,1,2,3,4,5,6,7,8],[8])])
def spec_AddrBytes.B6:List Nat:=[0,0,2,6,15,0,32,127,255,511]
theorem spec_AddrBytes.tab6:rtab .any (opsOf Try.f65 6)=spec_AddrBytes.T6:=by kernel_rfl
theorem spec_AddrBytes.bits6:q8_ spec_AddrBytes.T6.2 spec_AddrBytes.B6=true:=by kernel_rfl
theorem spec_AddrBytes.calls (c g i d a:Int) (r:List Int) (w:World) (h:spec_AddrBytes.f c g i d a=some r) :
  Calls Try.prog 65 #[.agg #[I L c,I L g,I L i,I L d,I L a]] w fun e w'=>∃ v:Value,e=.returned (v)∧Kd.R (Kd.int .u8) 5 w' w.heap.size (fun _=>True) v r∧Below w.heap.size w w':=by
 have hu28:=Try.underlying28
 have HB:=D (Below.refl w.heap.size w)
 have H:((spec_AddrOk.f c g i d a).bind fun Uc=>(if Uc=true then (if c=4 then ((spec_Put32.f a).bind fun Xc=>(some Xc)) else ((spec_Put32.f g).bind fun Mb=>((spec_Put32.f i).bind fun Jb=>(if Mb.length+Jb.length < 140737488355328 then ((some (Mb ++ Jb:List Int)).bind fun k=>((spec_Put32.f d).bind fun Ua=>(if k.length+Ua.length < 140737488355328 then ((some (k ++ Ua:List Int)).bind fun j=>((spec_Put32.f a).bind fun Oa=>(if j.length+Oa.length < 140737488355328 then (some (j ++ Oa)) else (none)))) else (none)))) else (none))))) else (some ([]:List Int))))=some r:=h
 clear h
 obtain ⟨Uc,x,H⟩:=bs_.mp H
 (try dsimp only at H)
 have P:=D x
 clear x
 have y:=D H
 clear H
 go_enter Try.func65,Try.ntmps65
 go_upto_if 6 with (first|((with_reducible refine qg_ (N:=1) rfl ?_);refine bx_ (N:=1) (cs:=#[I L c,I L g,I L i,I L d,I L a]) (t:=28) ?_;intro Ma hg w4 hbox hb;have n_:=an_ (qc_ (pB_ HB.out) hb)<|an_ (hbox)<|an_ (bg_ hg (pB_ HB.out):w.heap.size≤Ma)<|D (bg_ hg (pB_ HB.out):w.heap.size≤Ma);clear HB;obtain ⟨HB,Ja,Me,Oe⟩:=n_;clear hb hbox hg;have Ue:=q5_ Ja.out)|((with_reducible refine qd_ (f:=57) rfl ?_);refine qk_ (some 5) rfl rfl Try.func57 (by kernel_rfl) rfl #[.agg #[I L c,I L g,I L i,I L d,I L a]] rfl Z12 ?_;(with_reducible refine (spec_AddrOk.calls c g i d a Uc _ P.out).mono ?_);rintro e T ⟨rfl,hb⟩;refine ⟨_,rfl,?_⟩;have n_:=an_ (qb_ (pk_ Ja.out) hb)<|D (qc_ (pB_ HB.out) hb);clear Ja HB;obtain ⟨Ja,HB⟩:=n_;(try clear hb)))
 have H:=y.out
 clear y
 by_cases c7:Uc=true
 ·subst c7
  rw [if_pos rfl] at H
  by_cases c8:c=4
  ·rw [if_pos c8] at H
   have u:(c == 4)=true:=beq_iff_eq.mpr c8;have U:(c != 4)=false:=bne_eq_false_iff_eq.mpr c8;clear c8;refine rw_ u ?_;obtain ⟨Xc,z,H⟩:=bs_.mp H;(try dsimp only at H);have W:=D z;clear z;obtain rfl:=Option.some.inj H;have Mg:=q5_ Ja.out
   go_wp2_with (first|((with_reducible refine qd_ (f:=69) rfl ?_);refine qk_ (some 12) rfl rfl Try.func69 (by kernel_rfl) rfl #[I L a] rfl Z12 ?_;(with_reducible refine (spec_Put32.calls a Xc _ W.out).mono ?_);rintro e al ⟨Ji,rfl,b,hb⟩;refine ⟨_,rfl,?_⟩;have n_:=an_ (Kd.R_lower b (qh_ (pB_ HB.out)))<|an_ (qb_ (pk_ Ja.out) hb)<|D (qc_ (pB_ HB.out) hb);clear Ja HB;obtain ⟨Od,Ja,HB⟩:=n_;(try clear hb);(try clear b)))
   go_ret;exact ⟨_,er_,by (with_reducible repeat (first|apply Kd.R_alloc|apply Kd.R_drewN|apply Kd.R_drew));exact Od.out,pB_ HB.out⟩
  ·rw [if_neg c8] at H
   have u:(c == 4)=false:=beq_eq_false_iff_ne.mpr c8;have U:(c != 4)=true:=bne_iff_ne.mpr c8;refine rw_ u ?_;obtain ⟨Mb,A,H⟩:=bs_.mp H;(try dsimp only at H);have X:=D A;clear A;obtain ⟨Jb,B,H⟩:=bs_.mp H;(try dsimp only at H);have Z:=D B;clear B
   by_cases p:Mb.length+Jb.length < 140737488355328
   ·rw [if_pos p] at H
    have aa:=D p;clear p;obtain ⟨k,l⟩:∃ y_:List Int,y_=(Mb ++ Jb):=⟨_,rfl⟩
    replace H:((spec_Put32.f d).bind fun Ua=>(if k.length+Ua.length < 140737488355328 then ((some (k ++ Ua:List Int)).bind fun j=>((spec_Put32.f a).bind fun Oa=>(if j.length+Oa.length < 140737488355328 then (some (j ++ Oa)) else (none)))) else (none)))=some r:=by first|(rw [l];with_reducible exact H)|(have H2_:=(Option.bind_some _ _).symm.trans H;rw [l];with_reducible exact H2_)|(have H2_:=(Option.bind_some _ _).symm.trans H;with_reducible exact H2_)|with_reducible exact H|(rw [l];exact H)|exact H
    have ab:=D l;clear l;obtain ⟨Ua,E,H⟩:=bs_.mp H;(try dsimp only at H);have ac:=D E;clear E
    by_cases q:k.length+Ua.length < 140737488355328
    ·rw [if_pos q] at H
     have ad:=D q;clear q;obtain ⟨j,m⟩:∃ y_:List Int,y_=(k ++ Ua):=⟨_,rfl⟩
     replace H:((spec_Put32.f a).bind fun Oa=>(if j.length+Oa.length < 140737488355328 then (some (j ++ Oa)) else (none)))=some r:=by first|(rw [m];with_reducible exact H)|(have H2_:=(Option.bind_some _ _).symm.trans H;rw [m];with_reducible exact H2_)|(have H2_:=(Option.bind_some _ _).symm.trans H;with_reducible exact H2_)|with_reducible exact H|(rw [m];exact H)|exact H
     have ae:=D m;clear m;obtain ⟨Oa,G,H⟩:=bs_.mp H;(try dsimp only at H);have af:=D G;clear G
     by_cases s:j.length+Oa.length < 140737488355328
     ·rw [if_pos s] at H
      have ag:=D s;clear s;obtain ⟨ah,o⟩:∃ y_:List Int,y_=(j ++ Oa):=⟨_,rfl⟩
      replace H:(some ah)=some r:=by first|(rw [o];with_reducible exact H)|(have H2_:=(Option.bind_some _ _).symm.trans H;rw [o];with_reducible exact H2_)|(have H2_:=(Option.bind_some _ _).symm.trans H;with_reducible exact H2_)|with_reducible exact H|(rw [o];exact H)|exact H
      have ai:=D o;clear o;obtain rfl:=Option.some.inj H;obtain ⟨Ki,Mi,Oi,Ui,Xi,Jj,Kj,Mj,Oj,Uj⟩:=q5_ Ja.out
      try go_wp2
      have n_:=an_ (qt_ Ja.out)<|D (qr_ HB.out)
      clear Ja HB;obtain ⟨Ja,HB⟩:=n_;refine qaw_ (n:=8) (S:=fun w'=>w'.cell? ⟨Ma,0,none⟩=some (I L c)∧w'.cell? ⟨Ma,1,none⟩=some (I L g)∧w'.cell? ⟨Ma,2,none⟩=some (I L i)∧w'.cell? ⟨Ma,3,none⟩=some (I L d)∧w'.cell? ⟨Ma,4,none⟩=some (I L a)) (ds:=[]) (bz 8 0) (by kernel_rfl) rfl (by kernel_rfl) (be5_ Ja.out) (fun hHeld=>?_);refine q6_ spec_AddrBytes.tab5 spec_AddrBytes.bits5 (fun HT_ HW_=>?_);generalize T.drew=am at Ja HB hHeld ⊢;refine pb_ 0 ?_;refine pb_ 3 ?_;refine tb_ 1 rfl rfl hHeld Z21 ?_;refine tb_ 4 rfl rfl hHeld Z21 ?_;refine oa_ 2 15 8 31 HT_ (fun K hK=>?_);refine goes_ Try.func69 (by kernel_rfl) rfl #[I L g] (by rfl) rfl rfl Z12 ?_;with_reducible refine (spec_Put32.calls g Mb _ X.out).mono ?_
      rintro e an ⟨Ud,rfl,b,hb⟩;refine ⟨_,rfl,?_⟩
      have n_:=an_ (Kd.R_lower b (qh_ (pB_ HB.out)))<|an_ (qb_ (pk_ Ja.out) hb)<|D (qc_ (pB_ HB.out) hb)
      clear Ja HB;obtain ⟨Ob,Ja,HB⟩:=n_;refine hK.out _ _ (be5_ Ja.out) (fun hHeld=>?_);clear hK K;refine nx_ (N:=some 15) ?_;refine oa_ 5 18 8 63 HT_ (fun K hK=>?_);refine goes_ Try.func69 (by kernel_rfl) rfl #[I L i] (by rfl) rfl rfl Z12 ?_;with_reducible refine (spec_Put32.calls i Jb _ Z.out).mono ?_
      rintro e ao ⟨Xj,rfl,b,hb⟩;refine ⟨_,rfl,?_⟩
      have n_:=an_ (Kd.R_elder' (pR_ Ob.out) (Kd.R_base b) hb)<|an_ (Kd.R_lower (nw_ b (pR_ Ob.out)) (qh_ (pB_ HB.out)))<|an_ (qb_ (pk_ Ja.out) hb)<|D (qc_ (pB_ HB.out) hb)
      clear Ob Ja HB;obtain ⟨Ob,Ka,Ja,HB⟩:=n_;obtain ⟨Xb,Jc,J⟩:=Kd.R_slice Ka.out;(first|subst J|obtain ⟨rfl,rfl⟩:=qas_ J);refine hK.out _ _ (be5_ Ja.out) (fun hHeld=>?_);clear hK K;refine nx_ (N:=some 18) ?_;refine oa_ 6 19 8 127 HT_ (fun K hK=>?_);refine Kd.R_append_rows_step (Kd.int .u8) (w0:=w) w.heap.size (by rfl) (.tmp 15) (.tmp 18) 22 5 (.int .u8 0) 1 rfl Try.underlying22 info5 rfl (by decide) (by omega) Ud Mb Jb _ _ _ (fun k_=>some k_≠(Y Xb Jb.length Jc:Value).ownBlock) (fun _=>False) rfl rfl ?aO ?aR (fun _ _ h=>h) (fun _ h=>h.elim) ?aF ?aB ?aS ?aL ?_;(case aR=>exact pC_ ((Kd.R_reads' Ka.out).2.2));(case aB=>exact (pB_ HB.out));(case aF=>exact (fun k_ hk=>Kd.fresh' (Kd.R_lt (pR_ Ka.out)) k_ hk));(case aO=>exact (pR_ (Kd.R_mono Ob.out (fun _ hk=>hk.2))));(case aS=>exact (qh_ (pB_ HB.out)));(case aL=>have:=aa.out;omega);intro Xd aj ho hb hg hat;rw [← ab.out] at ho
      have n_:=an_ (qv_ (pk_ Ja.out) hg (Kd.R_ne Ob.out Ja.out (by decide)))<|an_ (Kd.R_after (ok:=(fun _=>True)) (pR_ Ka.out) hg hat)<|an_ (hb)<|D (ho)
      clear Ja Ka HB Ob;obtain ⟨Ja,Ka,HB,Kb⟩:=n_;clear ho hb hg hat;refine hK.out _ _ (be5_ Ja.out) (fun hHeld=>?_);clear hK K;refine nx_ (N:=some 19) ?_;refine pb_ 7 ?_;refine done_ (qaq_ HT_.out (by kernel_rfl)) ?_
      try go_wp2
      have n_:=an_ (Kd.R_drew Ka.out)<|an_ (Kd.R_drew Kb.out)<|an_ (qt_ Ja.out)<|D (qr_ HB.out)
      clear Ka Kb Ja HB;obtain ⟨Ka,Kb,Ja,HB⟩:=n_;refine qaw_ (n:=10) (S:=fun w'=>w'.cell? ⟨Ma,0,none⟩=some (I L c)∧w'.cell? ⟨Ma,1,none⟩=some (I L g)∧w'.cell? ⟨Ma,2,none⟩=some (I L i)∧w'.cell? ⟨Ma,3,none⟩=some (I L d)∧w'.cell? ⟨Ma,4,none⟩=some (I L a)) (ds:=[]) (bz 10 0) (by kernel_rfl) rfl (by kernel_rfl) (be5_ Ja.out) (fun hHeld=>?_);refine q6_ spec_AddrBytes.tab6 spec_AddrBytes.bits6 (fun HT_ HW_=>?_);generalize aj.drew=ap at Ka Kb Ja HB hHeld ⊢;refine pb_ 0 ?_;refine pb_ 1 ?_;refine pb_ 5 ?_;refine tb_ 2 rfl rfl hHeld Z21 ?_;refine tb_ 6 rfl rfl hHeld Z21 ?_;refine oa_ 3 23 10 111 HT_ (fun K hK=>?_);refine goes_ Try.func69 (by kernel_rfl) rfl #[I L d] (by rfl) rfl rfl Z12 ?_;with_reducible refine (spec_Put32.calls d Ua _ ac.out).mono ?_
      rintro e aq ⟨Jk,rfl,b,hb⟩;refine ⟨_,rfl,?_⟩
      have n_:=an_ (Kd.R_elder' (pR_ Ka.out) (Kd.R_base b) hb)<|an_ (Kd.R_elder' (pR_ Kb.out) (Kd.R_base b) hb)<|an_ (Kd.R_lower (nw_ (nw_ b (pR_ Ka.out)) (pR_ Kb.out)) (qh_ (pB_ HB.out)))<|an_ (qb_ (pk_ Ja.out) hb)<|D (qc_ (pB_ HB.out) hb)
      clear Ka Kb Ja HB;obtain ⟨Ka,Kb,Xa,Ja,HB⟩:=n_;obtain ⟨Mc,Oc,M⟩:=Kd.R_slice Xa.out;(first|subst M|obtain ⟨rfl,rfl⟩:=qas_ M);refine hK.out _ _ (be5_ Ja.out) (fun hHeld=>?_);clear hK K;refine nx_ (N:=some 23) ?_;refine oa_ 4 24 10 127 HT_ (fun K hK=>?_);refine Kd.R_append_rows_step (Kd.int .u8) (w0:=w) w.heap.size (by rfl) (.tmp 20) (.tmp 23) 22 5 (.int .u8 0) 1 rfl Try.underlying22 info5 rfl (by decide) (by omega) Xd k Ua _ _ _ (fun k_=>some k_≠(Y Xb Jb.length Jc:Value).ownBlock∧some k_≠(Y Mc Ua.length Oc:Value).ownBlock) (fun _=>False) rfl rfl ?aO ?aR (fun _ _ h=>h) (fun _ h=>h.elim) ?aF ?aB ?aS ?aL ?_;(case aR=>exact pC_ ((Kd.R_reads' Xa.out).2.2));(case aB=>exact (pB_ HB.out));(case aF=>exact (fun k_ hk=>⟨Kd.fresh' (Kd.R_lt (pR_ Ka.out)) k_ hk,Kd.fresh' (Kd.R_lt (pR_ Xa.out)) k_ hk⟩));(case aO=>exact (pR_ Kb.out));(case aS=>exact (qh_ (pB_ HB.out)));(case aL=>have:=ad.out;omega);intro Je ar ho hb hg hat;rw [← ae.out] at ho
      have n_:=an_ (qv_ (pk_ Ja.out) hg (Kd.R_ne Kb.out Ja.out (by decide)))<|an_ (Kd.R_after (ok:=(fun k_=>some k_≠(Y Mc Ua.length Oc:Value).ownBlock)) (pR_ (Kd.R_mono Ka.out (fun _ hk=>⟨hk.2,hk.1.2⟩))) hg hat)<|an_ (Kd.R_after (ok:=(fun k_=>some k_≠(Y Xb Jb.length Jc:Value).ownBlock)) (pR_ (Kd.R_mono Xa.out (fun _ hk=>⟨hk.1.2,hk.2⟩))) hg hat)<|an_ (hb)<|D (ho)
      clear Ja Ka Xa HB Kb;obtain ⟨Ja,Ka,Xa,HB,Ub⟩:=n_;clear ho hb hg hat;refine hK.out _ _ (be5_ Ja.out) (fun hHeld=>?_);clear hK K;refine nx_ (N:=some 24) ?_;refine oa_ 7 27 10 255 HT_ (fun K hK=>?_);refine goes_ Try.func69 (by kernel_rfl) rfl #[I L a] (by rfl) rfl rfl Z12 ?_;with_reducible refine (spec_Put32.calls a Oa _ af.out).mono ?_
      rintro e au ⟨Kk,rfl,b,hb⟩;refine ⟨_,rfl,?_⟩
      have n_:=an_ (Kd.R_elder' (pR_ Ka.out) (Kd.R_base b) hb)<|an_ (Kd.R_elder' (pR_ Xa.out) (Kd.R_base b) hb)<|an_ (Kd.R_elder' (pR_ Ub.out) (Kd.R_base b) hb)<|an_ (Kd.R_lower (nw_ (nw_ (nw_ b (pR_ Ka.out)) (pR_ Xa.out)) (pR_ Ub.out)) (qh_ (pB_ HB.out)))<|an_ (qb_ (pk_ Ja.out) hb)<|D (qc_ (pB_ HB.out) hb)
      clear Ka Xa Ub Ja HB;obtain ⟨Ka,Xa,Ub,Kc,Ja,HB⟩:=n_;obtain ⟨Jd,Md,O⟩:=Kd.R_slice Kc.out;(first|subst O|obtain ⟨rfl,rfl⟩:=qas_ O);refine hK.out _ _ (be5_ Ja.out) (fun hHeld=>?_);clear hK K;refine nx_ (N:=some 27) ?_;refine oa_ 8 28 10 511 HT_ (fun K hK=>?_);refine Kd.R_append_rows_step (Kd.int .u8) (w0:=w) w.heap.size (by rfl) (.tmp 24) (.tmp 27) 22 5 (.int .u8 0) 1 rfl Try.underlying22 info5 rfl (by decide) (by omega) Je j Oa _ _ _ (fun k_=>some k_≠(Y Xb Jb.length Jc:Value).ownBlock∧some k_≠(Y Mc Ua.length Oc:Value).ownBlock∧some k_≠(Y Jd Oa.length Md:Value).ownBlock) (fun _=>False) rfl rfl ?aO ?aR (fun _ _ h=>h) (fun _ h=>h.elim) ?aF ?aB ?aS ?aL ?_;(case aR=>exact pC_ ((Kd.R_reads' Kc.out).2.2));(case aB=>exact (pB_ HB.out));(case aF=>exact (fun k_ hk=>⟨Kd.fresh' (Kd.R_lt (pR_ Ka.out)) k_ hk,Kd.fresh' (Kd.R_lt (pR_ Xa.out)) k_ hk,Kd.fresh' (Kd.R_lt (pR_ Kc.out)) k_ hk⟩));(case aO=>exact (pR_ (Kd.R_mono Ub.out (fun _ hk=>⟨hk.1.1,⟨hk.1.2,hk.2⟩⟩))));(case aS=>exact (qh_ (pB_ HB.out)));(case aL=>have:=ag.out;omega);intro Mk av ho hb hg hat;rw [← ai.out] at ho
      have n_:=an_ (qv_ (pk_ Ja.out) hg (Kd.R_ne Ub.out Ja.out (by decide)))<|an_ (Kd.R_after (ok:=(fun k_=>some k_≠(Y Mc Ua.length Oc:Value).ownBlock∧some k_≠(Y Jd Oa.length Md:Value).ownBlock)) (pR_ (Kd.R_mono Ka.out (fun _ hk=>⟨⟨hk.1.1,hk.2⟩,hk.1.2⟩))) hg hat)<|an_ (Kd.R_after (ok:=(fun k_=>some k_≠(Y Xb Jb.length Jc:Value).ownBlock∧some k_≠(Y Jd Oa.length Md:Value).ownBlock)) (pR_ (Kd.R_mono Xa.out (fun _ hk=>⟨⟨hk.1.1,hk.2⟩,hk.1.2⟩))) hg hat)<|an_ (Kd.R_after (ok:=(fun k_=>some k_≠(Y Xb Jb.length Jc:Value).ownBlock∧some k_≠(Y Mc Ua.length Oc:Value).ownBlock)) (pR_ (Kd.R_mono Kc.out (fun _ hk=>⟨⟨hk.1.1.2,hk.1.2⟩,hk.2⟩))) hg hat)<|an_ (hb)<|D (ho)
      clear Ja Ka Xa Kc HB Ub;obtain ⟨Ja,Ka,Xa,Kc,HB,Ke⟩:=n_;clear ho hb hg hat;refine hK.out _ _ (be5_ Ja.out) (fun hHeld=>?_);clear hK K;refine nx_ (N:=some 28) ?_;refine pb_ 9 ?_;refine done_ (qaq_ HT_.out (by kernel_rfl)) ?_
      try go_wp2
      go_ret;exact ⟨_,er_,by (with_reducible repeat (first|apply Kd.R_alloc|apply Kd.R_drewN|apply Kd.R_drew));exact Kd.R_mono Ke.out (fun _ hk=>trivial),pB_ HB.out⟩
     ·rw [if_neg s] at H
      exact absurd H (by simp)
    ·rw [if_neg q] at H
     exact absurd H (by simp)
   ·rw [if_neg p] at H
    exact absurd H (by simp)
 ·replace c7:=Bool.eq_false_iff.mpr c7
  subst c7;rw [if_neg (show ¬ (false=true) by decide)] at H;obtain rfl:=Option.some.inj H
  go_wp2
  go_ret;exact ⟨_,er_,by first|exact Kd.R_nil _ _ _ _ _|exact Kd.N_nil _ _ _ _ _|exact Kd.V_nil _ _ _ _ _|exact Kd.Q_nil _ _ _ _ _|exact Kd.S_nil _ _ _ _ _,pB_ HB.out⟩
end Go.Proofs.Yteahaehbciccmaa.PFnPutDrop
