-- by a program of this session's, over the kit's words
import Derived.Test.YteahaehbciccmaaPZFnPutDrop
import Derived.Test.YteahaehbciccmaaPFnPutDropx0
import Derived.Test.YteahaehbciccmaaPFnPutDropx1
import Derived.Test.YteahaehbciccmaaPFnPutDropx18
namespace Go.Proofs.Yteahaehbciccmaa.PFnPutDrop
open Go.RowKit Go.Proofs.YteahaehbciccmaaW.PrintWords Go.Proofs.YteahaehbciccmaaW.PrintLast Go.Proofs.YteahaehbciccmaaW.PrintMore Go.Proofs.YteahaehbciccmaaV Go.Proofs.Yteahaehbciccmaa.ZFnPutDrop
open Go.Value renaming int → I, slice → Y
open Go.IntKind renaming i64 → L
open Aside0 renaming mk → D
open Option renaming bind_eq_some_iff → bs_
attribute [local go_sem] qad_ qab_ qak_ qaj_ q4_ q3_ qac_ qaa_
set_option linter.unusedVariables false
set_option linter.unusedSimpArgs false
set_option maxHeartbeats 8000000
set_option maxRecDepth 100000
attribute [local go_sem high] eqA32
def impl_Table_probe.l0:Nat→Int→Int→Int→Int→Int→List (S52)→Int→Int→Int→Int→Int→Int→Int→Int→Int→Int→Int→Int→Int→Int→Option (Int)
 | 0,_,_,_,_,_,_,_,_,_,_,_,_,_,_,_,_,_,_,_,_=>none
 | k+1,x5,x6,c,a,t,b,d,e,g,h,i,j,l,m,n,o,p,q,r,s=>if a < c then (if x5=0 then (none) else (if 0≤(Int.tmod (wrap64 (x6+a)) x5) then (if (Int.tmod (wrap64 (x6+a)) x5) < (b.length:Int) then (if ((qa_ b (Int.tmod (wrap64 (x6+a)) x5)).f0=true) then (if (((qa_ b (Int.tmod (wrap64 (x6+a)) x5)).f1.f0) == d && (((((qa_ b (Int.tmod (wrap64 (x6+a)) x5)).f1.f1.f0.f0) == e && (((qa_ b (Int.tmod (wrap64 (x6+a)) x5)).f1.f1.f0.f1) == g && (((qa_ b (Int.tmod (wrap64 (x6+a)) x5)).f1.f1.f0.f2) == h && (((qa_ b (Int.tmod (wrap64 (x6+a)) x5)).f1.f1.f0.f3) == i && (((qa_ b (Int.tmod (wrap64 (x6+a)) x5)).f1.f1.f0.f4) == j))))) && ((((qa_ b (Int.tmod (wrap64 (x6+a)) x5)).f1.f1.f1.f0) == l && (((qa_ b (Int.tmod (wrap64 (x6+a)) x5)).f1.f1.f1.f1) == m && (((qa_ b (Int.tmod (wrap64 (x6+a)) x5)).f1.f1.f1.f2) == n && (((qa_ b (Int.tmod (wrap64 (x6+a)) x5)).f1.f1.f1.f3) == o && (((qa_ b (Int.tmod (wrap64 (x6+a)) x5)).f1.f1.f1.f4) == p))))) && (((qa_ b (Int.tmod (wrap64 (x6+a)) x5)).f1.f1.f2) == q && (((qa_ b (Int.tmod (wrap64 (x6+a)) x5)).f1.f1.f3) == r && (((qa_ b (Int.tmod (wrap64 (x6+a)) x5)).f1.f1.f4) == s)))))))=true then (some (Int.tmod (wrap64 (x6+a)) x5)) else (impl_Table_probe.l0 k x5 x6 c (wrap64 (a+1)) t b d e g h i j l m n o p q r s)) else (some (Int.tmod (wrap64 (x6+a)) x5))) else (none)) else (none))) else (some (-1))
def impl_Table_probe.f (k:Nat) (b:Int) (a:List (S52)) (c d e g h i j l m n o p q r:Int):Option (Int):=(impl_hashOf.f k b c d e g h i j l m n o p q r).bind fun s=>(if (a.length:Int)=0 then (none) else (impl_Table_probe.l0 k (a.length:Int) (Int.tmod s (a.length:Int)) (a.length:Int) 0 b a c d e g h i j l m n o p q r))
theorem impl_Table_probe.calls (k:Nat) (x:Int) (E:Option Addr) (G:Nat) (a:List (S52)) (c d g i j l m n o p q s u v r:Int) (w:World) (aw:Kd.C k52 w E a.length a) (ax:a.length≤G) (h:impl_Table_probe.f k x a c d g i j l m n o p q s u v=some r) :
  Calls Try.prog 29 #[.agg #[I L x,Y E a.length G],.agg #[I L c,I L d,I L g,I L i,I L j,I L l,I L m,I L n,I L o,I L p,I L q,I L s,I L u,I L v]] w fun e w'=>e=.returned (I L r)∧Below w.heap.size w w':=by
 have hu26:=Try.underlying26
 have hu32:=Try.underlying32
 have al:=D aw
 have a5:=D ax
 clear aw ax
 have HB:=D (Below.refl w.heap.size w)
 have H:((impl_hashOf.f k x c d g i j l m n o p q s u v).bind fun Xa=>(if (a.length:Int)=0 then (none) else (impl_Table_probe.l0 k (a.length:Int) (Int.tmod Xa (a.length:Int)) (a.length:Int) 0 x a c d g i j l m n o p q s u v)))=some r:=h
 clear h
 obtain ⟨Xa,ay,H⟩:=bs_.mp H
 (try dsimp only at H)
 have A3:=D ay
 clear ay
 by_cases c4:(a.length:Int)=0
 ·rw [if_pos c4] at H
  exact absurd H (by simp)
 ·rw [if_neg c4] at H
  have aV:((a.length:Int) == 0)=false:=beq_eq_false_iff_ne.mpr c4;have aW:((a.length:Int) != 0)=true:=bne_iff_ne.mpr c4
  have aX:¬ (a=[]):=fun h_=>c4 (by rw [h_];rfl)
  have H':=D H;clear H;go_enter Try.func29,Try.ntmps29
  go_wp2_with (first|((with_reducible refine gld_ 32 rfl ?_);(first|refine qm_ ?_|refine la32_ ?_))|((with_reducible refine gld_ 4 rfl ?_);refine lc4_ ?_)|((with_reducible refine gst_ 32 rfl ?_);refine sa32_ ?_)|((with_reducible refine qg_ (N:=2) rfl ?_);refine bx_ (N:=2) (cs:=#[I L x,Y E a.length G]) (t:=26) ?_;intro Oa hg w5 hbox hb;have n_:=an_ (qc_ (pB_ HB.out) hb)<|an_ (hbox)<|an_ (bg_ hg (pB_ HB.out):w.heap.size≤Oa)<|D (bg_ hg (pB_ HB.out):w.heap.size≤Oa);clear HB;obtain ⟨HB,Ma,Xg,Jh⟩:=n_;clear hb hbox hg)|((with_reducible refine qg_ (N:=3) rfl ?_);refine bx_ (N:=3) (cs:=#[I L c,I L d,I L g,I L i,I L j,I L l,I L m,I L n,I L o,I L p,I L q,I L s,I L u,I L v]) (t:=32) ?_;intro Ka hg w6 hbox hb;have n_:=an_ (qb_ (pk_ Ma.out) hb)<|an_ (qc_ (pB_ HB.out) hb)<|an_ (hbox)<|an_ (bg_ hg (pB_ HB.out):w.heap.size≤Ka)<|an_ (bg_ hg (pB_ HB.out):w.heap.size≤Ka)<|an_ (nl_ hg (pk_ Ma.out):Oa≠Ka)<|D (by rw [hg];exact Nat.ne_of_gt (qz_ (pk_ Ma.out)):Ka≠Oa);clear Ma HB;obtain ⟨Ma,HB,Ja,Kh,Mh,Jb,Kb⟩:=n_;clear hb hbox hg;(try have:=Jb.out);(try have:=Kb.out);obtain ⟨Mb,Ob,Ub,Xb⟩:=ql_ Ma.out;obtain ⟨Jc,Kc,Mc,Oc,Uc,Xc,Jd,Md,Od,Ud,Xd,Je,Ke,Me,Oe,Ue,Xe,Jf,Kf,Mf,Of,Uf,Xf,Jg,Kg,Mg,Og,Ug⟩:=cells14 Ja.out)|(go_at_call 39;(with_reducible refine (impl_hashOf.calls k x c d g i j l m n o p q s u v Xa _ A3.out).mono ?_);rintro e aB ⟨rfl,hb⟩;have n_:=an_ (qb_ (pk_ Ma.out) hb)<|an_ (qb_ (pk_ Ja.out) hb)<|D (qc_ (pB_ HB.out) hb);clear Ma Ja HB;obtain ⟨Ma,Ja,HB⟩:=n_;(try clear hb)))
  repeat (go_quiet (first|((with_reducible refine qg_ (N:=2) rfl ?_);refine bx_ (N:=2) (cs:=#[I L x,Y E a.length G]) (t:=26) ?_;intro Oa hg w5 hbox hb;have n_:=an_ (qc_ (pB_ HB.out) hb)<|an_ (hbox)<|an_ (bg_ hg (pB_ HB.out):w.heap.size≤Oa)<|D (bg_ hg (pB_ HB.out):w.heap.size≤Oa);clear HB;obtain ⟨HB,Ma,Xg,Jh⟩:=n_;clear hb hbox hg)|((with_reducible refine qg_ (N:=3) rfl ?_);refine bx_ (N:=3) (cs:=#[I L c,I L d,I L g,I L i,I L j,I L l,I L m,I L n,I L o,I L p,I L q,I L s,I L u,I L v]) (t:=32) ?_;intro Ka hg w6 hbox hb;have n_:=an_ (qb_ (pk_ Ma.out) hb)<|an_ (qc_ (pB_ HB.out) hb)<|an_ (hbox)<|an_ (bg_ hg (pB_ HB.out):w.heap.size≤Ka)<|an_ (bg_ hg (pB_ HB.out):w.heap.size≤Ka)<|an_ (nl_ hg (pk_ Ma.out):Oa≠Ka)<|D (by rw [hg];exact Nat.ne_of_gt (qz_ (pk_ Ma.out)):Ka≠Oa);clear Ma HB;obtain ⟨Ma,HB,Ja,Kh,Mh,Jb,Kb⟩:=n_;clear hb hbox hg;(try have:=Jb.out);(try have:=Kb.out);obtain ⟨Mb,Ob,Ub,Xb⟩:=ql_ Ma.out;obtain ⟨Jc,Kc,Mc,Oc,Uc,Xc,Jd,Md,Od,Ud,Xd,Je,Ke,Me,Oe,Ue,Xe,Jf,Kf,Mf,Of,Uf,Xf,Jg,Kg,Mg,Og,Ug⟩:=cells14 Ja.out)|(go_at_call 39;(with_reducible refine (impl_hashOf.calls k x c d g i j l m n o p q s u v Xa _ A3.out).mono ?_);rintro e aB ⟨rfl,hb⟩;have n_:=an_ (qb_ (pk_ Ma.out) hb)<|an_ (qb_ (pk_ Ja.out) hb)<|D (qc_ (pB_ HB.out) hb);clear Ma Ja HB;obtain ⟨Ma,Ja,HB⟩:=n_;(try clear hb)));try go_wp2_with (first|((with_reducible refine gld_ 32 rfl ?_);(first|refine qm_ ?_|refine la32_ ?_))|((with_reducible refine gld_ 4 rfl ?_);refine lc4_ ?_)|((with_reducible refine gst_ 32 rfl ?_);refine sa32_ ?_)|((with_reducible refine qg_ (N:=2) rfl ?_);refine bx_ (N:=2) (cs:=#[I L x,Y E a.length G]) (t:=26) ?_;intro Oa hg w5 hbox hb;have n_:=an_ (qc_ (pB_ HB.out) hb)<|an_ (hbox)<|an_ (bg_ hg (pB_ HB.out):w.heap.size≤Oa)<|D (bg_ hg (pB_ HB.out):w.heap.size≤Oa);clear HB;obtain ⟨HB,Ma,Xg,Jh⟩:=n_;clear hb hbox hg)|((with_reducible refine qg_ (N:=3) rfl ?_);refine bx_ (N:=3) (cs:=#[I L c,I L d,I L g,I L i,I L j,I L l,I L m,I L n,I L o,I L p,I L q,I L s,I L u,I L v]) (t:=32) ?_;intro Ka hg w6 hbox hb;have n_:=an_ (qb_ (pk_ Ma.out) hb)<|an_ (qc_ (pB_ HB.out) hb)<|an_ (hbox)<|an_ (bg_ hg (pB_ HB.out):w.heap.size≤Ka)<|an_ (bg_ hg (pB_ HB.out):w.heap.size≤Ka)<|an_ (nl_ hg (pk_ Ma.out):Oa≠Ka)<|D (by rw [hg];exact Nat.ne_of_gt (qz_ (pk_ Ma.out)):Ka≠Oa);clear Ma HB;obtain ⟨Ma,HB,Ja,Kh,Mh,Jb,Kb⟩:=n_;clear hb hbox hg;(try have:=Jb.out);(try have:=Kb.out);obtain ⟨Mb,Ob,Ub,Xb⟩:=ql_ Ma.out;obtain ⟨Jc,Kc,Mc,Oc,Uc,Xc,Jd,Md,Od,Ud,Xd,Je,Ke,Me,Oe,Ue,Xe,Jf,Kf,Mf,Of,Uf,Xf,Jg,Kg,Mg,Og,Ug⟩:=cells14 Ja.out)|(go_at_call 39;(with_reducible refine (impl_hashOf.calls k x c d g i j l m n o p q s u v Xa _ A3.out).mono ?_);rintro e aB ⟨rfl,hb⟩;have n_:=an_ (qb_ (pk_ Ma.out) hb)<|an_ (qb_ (pk_ Ja.out) hb)<|D (qc_ (pB_ HB.out) hb);clear Ma Ja HB;obtain ⟨Ma,Ja,HB⟩:=n_;(try clear hb))))
  go_loopg [19] k (fun kq aY w'=>∃ (Ua:Int),aY=I L Ua∧Aside0 (impl_Table_probe.l0 kq (a.length:Int) (Int.tmod Xa (a.length:Int)) (a.length:Int) Ua x a c d g i j l m n o p q s u v=some r)∧Aside0 (kq≤k)∧Aside0 (w'.heap[Oa]?=some (.cells #[I L x,(Y E a.length G)] 26 (0,0)))∧Aside0 (w'.heap[Ka]?=some (.cells #[I L c,I L d,I L g,I L i,I L j,I L l,I L m,I L n,I L o,I L p,I L q,I L s,I L u,I L v] 32 (0,0)))∧Aside0 (Below w.heap.size w w'))
  case atStart=>exact ⟨(0),Z35,H',⟨Nat.le_refl _⟩,⟨pk_ Ma.out⟩,⟨pk_ Ja.out⟩,⟨pB_ HB.out⟩⟩
  case round =>
   clear H'
   (try clear c2);(try clear p2);(try clear c4);(try clear aV);(try clear aW);(try clear aX);(try clear c7);(try clear Mb Ob Ub Xb);(try clear Jc Kc Xd Je Ke Me Mc Oc Uc Xc Jd Md Od Ud Oe Ue Kg Mg Og Ug Xe Jf Kf Mf Of Uf Xf Jg)
   obtain ⟨Ua,rfl,HA,aC,Ma,Ja,HB⟩:=hrel
   cases gk with
   | zero=>exact absurd HA.out (by simp [impl_Table_probe.l0])
   | succ k1 =>
    have H:=HA.out;clear HA;simp only [impl_Table_probe.l0] at H
    by_cases J:Ua < (a.length:Int)
    ·rw [if_pos J] at H
     have aZ:decide (Ua < (a.length:Int))=true:=decide_eq_true J;clear J
     by_cases M:(a.length:Int)=0
     ·rw [if_pos M] at H
      exact absurd H (by simp)
     ·rw [if_neg M] at H
      have a7:((a.length:Int) == 0)=false:=beq_eq_false_iff_ne.mpr M;have a8:((a.length:Int) != 0)=true:=bne_iff_ne.mpr M
      have a9:¬ (a=[]):=fun h_=>M (by rw [h_];rfl)
      obtain ⟨b,hji13⟩:∃ j_:Int,(Int.tmod (wrap64 ((Int.tmod Xa (a.length:Int))+Ua)) (a.length:Int))=j_:=⟨_,rfl⟩
      replace H:(if 0≤(b) then (if (b) < (a.length:Int) then (if ((qa_ a (b)).f0=true) then (if (((qa_ a (b)).f1.f0) == c && (((((qa_ a (b)).f1.f1.f0.f0) == d && (((qa_ a (b)).f1.f1.f0.f1) == g && (((qa_ a (b)).f1.f1.f0.f2) == i && (((qa_ a (b)).f1.f1.f0.f3) == j && (((qa_ a (b)).f1.f1.f0.f4) == l))))) && ((((qa_ a (b)).f1.f1.f1.f0) == m && (((qa_ a (b)).f1.f1.f1.f1) == n && (((qa_ a (b)).f1.f1.f1.f2) == o && (((qa_ a (b)).f1.f1.f1.f3) == p && (((qa_ a (b)).f1.f1.f1.f4) == q))))) && (((qa_ a (b)).f1.f1.f2) == s && (((qa_ a (b)).f1.f1.f3) == u && (((qa_ a (b)).f1.f1.f4) == v)))))))=true then (some b) else (impl_Table_probe.l0 k1 (a.length:Int) (Int.tmod Xa (a.length:Int)) (a.length:Int) (wrap64 (Ua+1)) x a c d g i j l m n o p q s u v)) else (some b)) else (none)) else (none))=some r:=by first|(rw [hji13] at H;exact H)|(simp only [hji13] at H ⊢;exact H)
      by_cases ai:0≤(b)
      ·rw [if_pos ai] at H
       have ba:decide (0≤(b))=true:=decide_eq_true ai;clear ai
       by_cases aj:(b) < (a.length:Int)
       ·rw [if_pos aj] at H
        have bb:decide ((b) < (a.length:Int))=true:=decide_eq_true aj;clear aj;obtain ⟨aD,ao⟩:∃ b_:Bool,b_=((qa_ a (b)).f0):=⟨_,rfl⟩
        replace H:(if (aD=true) then (if (((qa_ a (b)).f1.f0) == c && (((((qa_ a (b)).f1.f1.f0.f0) == d && (((qa_ a (b)).f1.f1.f0.f1) == g && (((qa_ a (b)).f1.f1.f0.f2) == i && (((qa_ a (b)).f1.f1.f0.f3) == j && (((qa_ a (b)).f1.f1.f0.f4) == l))))) && ((((qa_ a (b)).f1.f1.f1.f0) == m && (((qa_ a (b)).f1.f1.f1.f1) == n && (((qa_ a (b)).f1.f1.f1.f2) == o && (((qa_ a (b)).f1.f1.f1.f3) == p && (((qa_ a (b)).f1.f1.f1.f4) == q))))) && (((qa_ a (b)).f1.f1.f2) == s && (((qa_ a (b)).f1.f1.f3) == u && (((qa_ a (b)).f1.f1.f4) == v)))))))=true then (some b) else (impl_Table_probe.l0 k1 (a.length:Int) (Int.tmod Xa (a.length:Int)) (a.length:Int) (wrap64 (Ua+1)) x a c d g i j l m n o p q s u v)) else (some b))=some r:=by rw [← ao] at H;exact H
        have K:=D ao;clear ao
        by_cases ak:(aD=true)
        ·subst ak;(try simp only [Bool.not_true,Bool.not_false])
         rw [if_pos rfl] at H;have aE:=D H;clear H;(try have:=Jb.out);(try have:=Kb.out);have Oh:=ql_ Ma.out;have z:0≤((b):Int):=od_ Z22;have A:(b) < (a.length:Int):=od_ Z22;obtain ⟨aF,ap,B,O,P,T,U,W,X,Z,aa,ab,ac,ad,ae,af,ag,ah⟩:=at_T52 al.out (b) z A;(try rw [← K.out] at B);(try rw [← K.out] at a0);cases ap;replace B:=rc_ HB.out B;replace O:=rc_ HB.out O;replace P:=rc_ HB.out P;replace T:=rc_ HB.out T;replace U:=rc_ HB.out U;replace W:=rc_ HB.out W;replace X:=rc_ HB.out X;replace Z:=rc_ HB.out Z;replace aa:=rc_ HB.out aa;replace ab:=rc_ HB.out ab;replace ac:=rc_ HB.out ac;replace ad:=rc_ HB.out ad;replace ae:=rc_ HB.out ae;replace af:=rc_ HB.out af;replace ag:=rc_ HB.out ag;replace ah:=rc_ HB.out ah;replace z:=eq_true z;replace A:=eq_true A;have aq:0≤((b):Int):=od_ Z22;have ar:(b) < (a.length:Int):=od_ Z22;obtain ⟨a1,a2,au,aG,aH,aI,aJ,aK,aL,aM,aN,aO,aP,aQ,aR,aS,aT,aU⟩:=at_T52 al.out (b) aq ar;(try rw [← K.out] at au);(try rw [← K.out] at bc);obtain rfl:aF=a1:=(by injection a2);replace au:=rc_ HB.out au;replace aG:=rc_ HB.out aG;replace aH:=rc_ HB.out aH;replace aI:=rc_ HB.out aI;replace aJ:=rc_ HB.out aJ;replace aK:=rc_ HB.out aK;replace aL:=rc_ HB.out aL;replace aM:=rc_ HB.out aM;replace aN:=rc_ HB.out aN;replace aO:=rc_ HB.out aO;replace aP:=rc_ HB.out aP;replace aQ:=rc_ HB.out aQ;replace aR:=rc_ HB.out aR;replace aS:=rc_ HB.out aS;replace aT:=rc_ HB.out aT;replace aU:=rc_ HB.out aU;replace aq:=eq_true aq;replace ar:=eq_true ar;obtain ⟨Ki,Mi,Oi,Ui,Xi,Jj,Kj,Mj,Oj,Uj,Xj,Jk,Kk,Mk,Ok,Uk,Xk,Jm,Km,Mm,Om,Um,Xm,Jn,Kn,Mn,On,Un⟩:=cells14 Ja.out
         go_upto_if 43 with (first|((with_reducible refine gld_ 32 rfl ?_);(first|refine qm_ ?_|refine la32_ ?_))|((with_reducible refine gld_ 4 rfl ?_);refine lc4_ ?_)|((with_reducible refine gst_ 32 rfl ?_);refine sa32_ ?_))
         repeat (go_quiet (fail);go_upto_if 43 with (first|((with_reducible refine gld_ 32 rfl ?_);(first|refine qm_ ?_|refine la32_ ?_))|((with_reducible refine gld_ 4 rfl ?_);refine lc4_ ?_)|((with_reducible refine gst_ 32 rfl ?_);refine sa32_ ?_)))
         have H:=aE.out;clear aE
         by_cases y:(((qa_ a (b)).f1.f0) == c && (((((qa_ a (b)).f1.f1.f0.f0) == d && (((qa_ a (b)).f1.f1.f0.f1) == g && (((qa_ a (b)).f1.f1.f0.f2) == i && (((qa_ a (b)).f1.f1.f0.f3) == j && (((qa_ a (b)).f1.f1.f0.f4) == l))))) && ((((qa_ a (b)).f1.f1.f1.f0) == m && (((qa_ a (b)).f1.f1.f1.f1) == n && (((qa_ a (b)).f1.f1.f1.f2) == o && (((qa_ a (b)).f1.f1.f1.f3) == p && (((qa_ a (b)).f1.f1.f1.f4) == q))))) && (((qa_ a (b)).f1.f1.f2) == s && (((qa_ a (b)).f1.f1.f3) == u && (((qa_ a (b)).f1.f1.f4) == v)))))))=true
         ·rw [if_pos y] at H
          have av:(((qa_ a (b)).f1.f0) == c && (((((qa_ a (b)).f1.f1.f0.f0) == d && (((qa_ a (b)).f1.f1.f0.f1) == g && (((qa_ a (b)).f1.f1.f0.f2) == i && (((qa_ a (b)).f1.f1.f0.f3) == j && (((qa_ a (b)).f1.f1.f0.f4) == l))))) && ((((qa_ a (b)).f1.f1.f1.f0) == m && (((qa_ a (b)).f1.f1.f1.f1) == n && (((qa_ a (b)).f1.f1.f1.f2) == o && (((qa_ a (b)).f1.f1.f1.f3) == p && (((qa_ a (b)).f1.f1.f1.f4) == q))))) && (((qa_ a (b)).f1.f1.f2) == s && (((qa_ a (b)).f1.f1.f3) == u && (((qa_ a (b)).f1.f1.f4) == v)))))))=true:=y;(try (have a3:decide (((qa_ a (b)).f1.f0)=c && (((((qa_ a (b)).f1.f1.f0.f0) == d && (((qa_ a (b)).f1.f1.f0.f1) == g && (((qa_ a (b)).f1.f1.f0.f2) == i && (((qa_ a (b)).f1.f1.f0.f3) == j && (((qa_ a (b)).f1.f1.f0.f4) == l))))) && ((((qa_ a (b)).f1.f1.f1.f0) == m && (((qa_ a (b)).f1.f1.f1.f1) == n && (((qa_ a (b)).f1.f1.f1.f2) == o && (((qa_ a (b)).f1.f1.f1.f3) == p && (((qa_ a (b)).f1.f1.f1.f4) == q))))) && (((qa_ a (b)).f1.f1.f2) == s && (((qa_ a (b)).f1.f1.f3) == u && (((qa_ a (b)).f1.f1.f4) == v)))))))=true:=by simpa using y));(try (have a4:(((qa_ a (b)).f1.f0) == c && (((((qa_ a (b)).f1.f1.f0.f0) == d && (((qa_ a (b)).f1.f1.f0.f1) == g && (((qa_ a (b)).f1.f1.f0.f2) == i && (((qa_ a (b)).f1.f1.f0.f3) == j && (((qa_ a (b)).f1.f1.f0.f4) == l))))) && ((((qa_ a (b)).f1.f1.f1.f0) == m && (((qa_ a (b)).f1.f1.f1.f1) == n && (((qa_ a (b)).f1.f1.f1.f2) == o && (((qa_ a (b)).f1.f1.f1.f3) == p && (((qa_ a (b)).f1.f1.f1.f4) == q))))) && (((qa_ a (b)).f1.f1.f2) == s && (((qa_ a (b)).f1.f1.f3) == u && (((qa_ a (b)).f1.f1.f4) == v)))))))=true:=by simpa using y));clear y;refine rw_ av ?_;obtain rfl:=Option.some.inj H
          go_wp2_with (first|((with_reducible refine gld_ 32 rfl ?_);(first|refine qm_ ?_|refine la32_ ?_))|((with_reducible refine gld_ 4 rfl ?_);refine lc4_ ?_)|((with_reducible refine gst_ 32 rfl ?_);refine sa32_ ?_))
          repeat (go_quiet (fail);try go_wp2_with (first|((with_reducible refine gld_ 32 rfl ?_);(first|refine qm_ ?_|refine la32_ ?_))|((with_reducible refine gld_ 4 rfl ?_);refine lc4_ ?_)|((with_reducible refine gst_ 32 rfl ?_);refine sa32_ ?_)))
          go_ret;exact ⟨by first|rfl|(simp [qag_,qaf_] <;> rfl)|(simp only [← hji13];first|rfl|(simp [qag_,qaf_] <;> rfl))|(simp [*,qag_,qaf_] <;> rfl),pB_ HB.out⟩
         ·rw [if_neg y] at H
          have av:(((qa_ a (b)).f1.f0) == c && (((((qa_ a (b)).f1.f1.f0.f0) == d && (((qa_ a (b)).f1.f1.f0.f1) == g && (((qa_ a (b)).f1.f1.f0.f2) == i && (((qa_ a (b)).f1.f1.f0.f3) == j && (((qa_ a (b)).f1.f1.f0.f4) == l))))) && ((((qa_ a (b)).f1.f1.f1.f0) == m && (((qa_ a (b)).f1.f1.f1.f1) == n && (((qa_ a (b)).f1.f1.f1.f2) == o && (((qa_ a (b)).f1.f1.f1.f3) == p && (((qa_ a (b)).f1.f1.f1.f4) == q))))) && (((qa_ a (b)).f1.f1.f2) == s && (((qa_ a (b)).f1.f1.f3) == u && (((qa_ a (b)).f1.f1.f4) == v)))))))=false:=by simpa using y
          (try (have a3:decide (((qa_ a (b)).f1.f0)=c && (((((qa_ a (b)).f1.f1.f0.f0) == d && (((qa_ a (b)).f1.f1.f0.f1) == g && (((qa_ a (b)).f1.f1.f0.f2) == i && (((qa_ a (b)).f1.f1.f0.f3) == j && (((qa_ a (b)).f1.f1.f0.f4) == l))))) && ((((qa_ a (b)).f1.f1.f1.f0) == m && (((qa_ a (b)).f1.f1.f1.f1) == n && (((qa_ a (b)).f1.f1.f1.f2) == o && (((qa_ a (b)).f1.f1.f1.f3) == p && (((qa_ a (b)).f1.f1.f1.f4) == q))))) && (((qa_ a (b)).f1.f1.f2) == s && (((qa_ a (b)).f1.f1.f3) == u && (((qa_ a (b)).f1.f1.f4) == v)))))))=false:=by simpa using y));(try (have a4:(((qa_ a (b)).f1.f0) == c && (((((qa_ a (b)).f1.f1.f0.f0) == d && (((qa_ a (b)).f1.f1.f0.f1) == g && (((qa_ a (b)).f1.f1.f0.f2) == i && (((qa_ a (b)).f1.f1.f0.f3) == j && (((qa_ a (b)).f1.f1.f0.f4) == l))))) && ((((qa_ a (b)).f1.f1.f1.f0) == m && (((qa_ a (b)).f1.f1.f1.f1) == n && (((qa_ a (b)).f1.f1.f1.f2) == o && (((qa_ a (b)).f1.f1.f1.f3) == p && (((qa_ a (b)).f1.f1.f1.f4) == q))))) && (((qa_ a (b)).f1.f1.f2) == s && (((qa_ a (b)).f1.f1.f3) == u && (((qa_ a (b)).f1.f1.f4) == v)))))))=false:=by simpa using y));(try (have bd:¬ (((qa_ a (b)).f1.f0)=c && (((((qa_ a (b)).f1.f1.f0.f0) == d && (((qa_ a (b)).f1.f1.f0.f1) == g && (((qa_ a (b)).f1.f1.f0.f2) == i && (((qa_ a (b)).f1.f1.f0.f3) == j && (((qa_ a (b)).f1.f1.f0.f4) == l))))) && ((((qa_ a (b)).f1.f1.f1.f0) == m && (((qa_ a (b)).f1.f1.f1.f1) == n && (((qa_ a (b)).f1.f1.f1.f2) == o && (((qa_ a (b)).f1.f1.f1.f3) == p && (((qa_ a (b)).f1.f1.f1.f4) == q))))) && (((qa_ a (b)).f1.f1.f2) == s && (((qa_ a (b)).f1.f1.f3) == u && (((qa_ a (b)).f1.f1.f4) == v))))))):=by simpa using y));clear y;refine rw_ av ?_;have H':=D H;clear H
          go_wp2_with (first|((with_reducible refine gld_ 32 rfl ?_);(first|refine qm_ ?_|refine la32_ ?_))|((with_reducible refine gld_ 4 rfl ?_);refine lc4_ ?_)|((with_reducible refine gst_ 32 rfl ?_);refine sa32_ ?_))
          repeat (go_quiet (fail);try go_wp2_with (first|((with_reducible refine gld_ 32 rfl ?_);(first|refine qm_ ?_|refine la32_ ?_))|((with_reducible refine gld_ 4 rfl ?_);refine lc4_ ?_)|((with_reducible refine gst_ 32 rfl ?_);refine sa32_ ?_)))
          go_roundg k1
          case measure=>have:=aC.out;omega
          case rel=>exact ⟨(wrap64 (Ua+1)),Z35,H',⟨by have:=aC.out;omega⟩,⟨pk_ Ma.out⟩,⟨pk_ Ja.out⟩,⟨pB_ HB.out⟩⟩
        ·replace ak:=Bool.eq_false_iff.mpr ak
         subst ak;(try simp only [Bool.not_true,Bool.not_false]);rw [if_neg (show ¬ (false=true) by decide)] at H;obtain rfl:=Option.some.inj H;(try have:=Jb.out);(try have:=Kb.out);have Xn:=ql_ Ma.out;have z:0≤((b):Int):=od_ Z22;have A:(b) < (a.length:Int):=od_ Z22;obtain ⟨aF,ap,B,O,P,T,U,W,X,Z,aa,ab,ac,ad,ae,af,ag,ah⟩:=at_T52 al.out (b) z A;(try rw [← K.out] at B);(try rw [← K.out] at a0);cases ap;replace B:=rc_ HB.out B;replace O:=rc_ HB.out O;replace P:=rc_ HB.out P;replace T:=rc_ HB.out T;replace U:=rc_ HB.out U;replace W:=rc_ HB.out W;replace X:=rc_ HB.out X;replace Z:=rc_ HB.out Z;replace aa:=rc_ HB.out aa;replace ab:=rc_ HB.out ab;replace ac:=rc_ HB.out ac;replace ad:=rc_ HB.out ad;replace ae:=rc_ HB.out ae;replace af:=rc_ HB.out af;replace ag:=rc_ HB.out ag;replace ah:=rc_ HB.out ah;replace z:=eq_true z;replace A:=eq_true A
         go_wp2_with (first|((with_reducible refine gld_ 32 rfl ?_);(first|refine qm_ ?_|refine la32_ ?_))|((with_reducible refine gld_ 4 rfl ?_);refine lc4_ ?_)|((with_reducible refine gst_ 32 rfl ?_);refine sa32_ ?_))
         repeat (go_quiet (fail);try go_wp2_with (first|((with_reducible refine gld_ 32 rfl ?_);(first|refine qm_ ?_|refine la32_ ?_))|((with_reducible refine gld_ 4 rfl ?_);refine lc4_ ?_)|((with_reducible refine gst_ 32 rfl ?_);refine sa32_ ?_)))
         go_ret;exact ⟨by first|rfl|(simp [qag_,qaf_] <;> rfl)|(simp only [← hji13];first|rfl|(simp [qag_,qaf_] <;> rfl))|(simp [*,qag_,qaf_] <;> rfl),pB_ HB.out⟩
       ·rw [if_neg aj] at H
        exact absurd H (by simp)
      ·rw [if_neg ai] at H
       exact absurd H (by simp)
    ·rw [if_neg J] at H
     have aZ:decide (Ua < (a.length:Int))=false:=decide_eq_false J;clear J;obtain rfl:=Option.some.inj H
     go_wp2_with (first|((with_reducible refine gld_ 32 rfl ?_);(first|refine qm_ ?_|refine la32_ ?_))|((with_reducible refine gld_ 4 rfl ?_);refine lc4_ ?_)|((with_reducible refine gst_ 32 rfl ?_);refine sa32_ ?_))
     repeat (go_quiet (fail);try go_wp2_with (first|((with_reducible refine gld_ 32 rfl ?_);(first|refine qm_ ?_|refine la32_ ?_))|((with_reducible refine gld_ 4 rfl ?_);refine lc4_ ?_)|((with_reducible refine gst_ 32 rfl ?_);refine sa32_ ?_)))
     go_ret;exact ⟨er_,pB_ HB.out⟩
def impl_isCells.f (a0:Int):Option (Bool):=if a0=4 then (some true) else (if a0=8 then (some true) else (if a0=16 then (some true) else (if a0=32 then (some true) else (some (a0 == 64)))))
theorem impl_isCells.calls (a0:Int) (r:Bool) (w:World) (h:impl_isCells.f a0=some r) :
  Calls Try.prog 35 #[I L a0] w fun e w'=>e=.returned (.bool r)∧Drawn0 w w':=by
 have H:(if a0=4 then (some true) else (if a0=8 then (some true) else (if a0=16 then (some true) else (if a0=32 then (some true) else (some (a0 == 64))))))=some r:=h
 clear h
 by_cases c2:a0=4
 ·rw [if_pos c2] at H
  have a:(a0 == 4)=true:=beq_iff_eq.mpr c2;have b:(a0 != 4)=false:=bne_eq_false_iff_eq.mpr c2;clear c2;obtain rfl:=Option.some.inj H;go_enter Try.func35,Try.ntmps35
  go_wp2
  go_ret;exact ⟨by first | rfl | (simp;done) | (simp [*];done),by repeat (first | exact Drawn0.refl _ | apply Drawn0.step)⟩
 ·rw [if_neg c2] at H
  have a:(a0 == 4)=false:=beq_eq_false_iff_ne.mpr c2;have b:(a0 != 4)=true:=bne_iff_ne.mpr c2
  by_cases c3:a0=8
  ·rw [if_pos c3] at H
   have c:(a0 == 8)=true:=beq_iff_eq.mpr c3;have d:(a0 != 8)=false:=bne_eq_false_iff_eq.mpr c3;clear c3;obtain rfl:=Option.some.inj H;go_enter Try.func35,Try.ntmps35
   go_wp2
   go_ret;exact ⟨by first | rfl | (simp;done) | (simp [*];done),by repeat (first | exact Drawn0.refl _ | apply Drawn0.step)⟩
  ·rw [if_neg c3] at H
   have c:(a0 == 8)=false:=beq_eq_false_iff_ne.mpr c3;have d:(a0 != 8)=true:=bne_iff_ne.mpr c3
   by_cases c4:a0=16
   ·rw [if_pos c4] at H
    have g:(a0 == 16)=true:=beq_iff_eq.mpr c4;have i:(a0 != 16)=false:=bne_eq_false_iff_eq.mpr c4;clear c4;obtain rfl:=Option.some.inj H;go_enter Try.func35,Try.ntmps35
    go_wp2
    go_ret;exact ⟨by first | rfl | (simp;done) | (simp [*];done),by repeat (first | exact Drawn0.refl _ | apply Drawn0.step)⟩
   ·rw [if_neg c4] at H
    have g:(a0 == 16)=false:=beq_eq_false_iff_ne.mpr c4;have i:(a0 != 16)=true:=bne_iff_ne.mpr c4
    by_cases c5:a0=32
    ·rw [if_pos c5] at H
     have j:(a0 == 32)=true:=beq_iff_eq.mpr c5;have k:(a0 != 32)=false:=bne_eq_false_iff_eq.mpr c5;clear c5;obtain rfl:=Option.some.inj H;go_enter Try.func35,Try.ntmps35
     go_wp2
     go_ret;exact ⟨by first | rfl | (simp;done) | (simp [*];done),by repeat (first | exact Drawn0.refl _ | apply Drawn0.step)⟩
    ·rw [if_neg c5] at H
     have j:(a0 == 32)=false:=beq_eq_false_iff_ne.mpr c5;have k:(a0 != 32)=true:=bne_iff_ne.mpr c5;obtain rfl:=Option.some.inj H;go_enter Try.func35,Try.ntmps35
     go_wp2
     go_ret;exact ⟨by first | rfl | (simp;done) | (simp [*];done),by repeat (first | exact Drawn0.refl _ | apply Drawn0.step)⟩
def impl_Table_used.l0:Nat→Int→List (S52)→Int→Int→Option (Int)
 | 0,_,_,_,_=>none
 | k+1,x3,x7,x8,x9=>if x9 < x8 then (if 0≤x9 then (if x9 < (x7.length:Int) then (if (qa_ x7 x9).f0=true then (impl_Table_used.l0 k (wrap64 (x3+1)) x7 x8 (wrap64 (x9+1))) else (impl_Table_used.l0 k x3 x7 x8 (wrap64 (x9+1)))) else (none)) else (none)) else (some x3)
def impl_Table_used.f (k:Nat) (b:Int) (a:List (S52)):Option (Int):=impl_Table_used.l0 k 0 a (a.length:Int) 0
theorem impl_Table_used.calls (k:Nat) (i:Int) (m:Option Addr) (j:Nat) (a:List (S52)) (r:Int) (w:World) (y:Kd.C k52 w m a.length a) (z:a.length≤j) (h:impl_Table_used.f k i a=some r) :
  Calls Try.prog 36 #[.agg #[I L i,Y m a.length j]] w fun e w'=>e=.returned (I L r)∧Below w.heap.size w w':=by
 have hu26:=Try.underlying26
 have hu52:=Try.underlying52
 have af:=D y
 have am:=D z
 clear y z
 have HB:=D (Below.refl w.heap.size w)
 have H:(impl_Table_used.l0 k 0 a (a.length:Int) 0)=some r:=h
 clear h
 have H':=D H
 clear H
 go_enter Try.func36,Try.ntmps36
 go_wp2_with (first|((with_reducible refine gld_ 4 rfl ?_);refine lc4_ ?_)|((with_reducible refine gst_ 52 rfl ?_);refine sa52_ ?_)|((with_reducible refine gld_ 52 rfl ?_);refine la52_ ?_)|((with_reducible refine qg_ (N:=1) rfl ?_);refine bx_ (N:=1) (cs:=#[I L i,Y m a.length j]) (t:=26) ?_;intro g hg w2 hbox hb;have n_:=an_ (qc_ (pB_ HB.out) hb)<|an_ (hbox)<|an_ (bg_ hg (pB_ HB.out):w.heap.size≤g)<|D (bg_ hg (pB_ HB.out):w.heap.size≤g);clear HB;obtain ⟨HB,c,ao,ap⟩:=n_;clear hb hbox hg;have ag:=ql_ c.out))
 go_loopg [3,9] k (fun kq v3 v9 w'=>∃ (d:Int) (b:Int),v3=I L d∧v9=I L b∧Aside0 (impl_Table_used.l0 kq d a (a.length:Int) b=some r)∧Aside0 (kq≤k)∧Aside0 (w'.heap[g]?=some (.cells #[I L i,(Y m a.length j)] 26 (0,0)))∧Aside0 (Below w.heap.size w w'))
 case atStart=>exact ⟨(0),(0),Z35,Z35,H',⟨Nat.le_refl _⟩,⟨pk_ c.out⟩,⟨pB_ HB.out⟩⟩
 case round =>
  clear H'
  (try clear p2);(try clear c3);(try clear ag)
  obtain ⟨d,b,rfl,rfl,HA,n,c,HB⟩:=hrel
  cases gk with
  | zero=>exact absurd HA.out (by simp [impl_Table_used.l0])
  | succ o =>
   have H:=HA.out;clear HA;simp only [impl_Table_used.l0] at H
   by_cases c4:b < (a.length:Int)
   ·rw [if_pos c4] at H
    have ah:decide (b < (a.length:Int))=true:=decide_eq_true c4;clear c4
    by_cases c5:0≤b
    ·rw [if_pos c5] at H
     have ar:decide (0≤b)=true:=decide_eq_true c5;clear c5
     by_cases c6:b < (a.length:Int)
     ·rw [if_pos c6] at H
      have au:decide (b < (a.length:Int))=true:=decide_eq_true c6;clear c6;have A:=D H;clear H;have u:0≤(b:Int):=od_ Z22;have v:b < (a.length:Int):=od_ Z22;obtain ⟨ai,aj,B,E,G,J,K,M,O,P,T,U,W,X,Z,aa,ab,ac⟩:=at_T52 af.out b u v;cases aj;replace B:=rc_ HB.out B;replace E:=rc_ HB.out E;replace G:=rc_ HB.out G;replace J:=rc_ HB.out J;replace K:=rc_ HB.out K;replace M:=rc_ HB.out M;replace O:=rc_ HB.out O;replace P:=rc_ HB.out P;replace T:=rc_ HB.out T;replace U:=rc_ HB.out U;replace W:=rc_ HB.out W;replace X:=rc_ HB.out X;replace Z:=rc_ HB.out Z;replace aa:=rc_ HB.out aa;replace ab:=rc_ HB.out ab;replace ac:=rc_ HB.out ac;replace u:=eq_true u;replace v:=eq_true v
      go_upto_if 14 with (first|((with_reducible refine gld_ 4 rfl ?_);refine lc4_ ?_)|((with_reducible refine gst_ 52 rfl ?_);refine sa52_ ?_)|((with_reducible refine gld_ 52 rfl ?_);refine la52_ ?_)|((with_reducible refine qg_ (N:=5) rfl ?_);refine bx_ (N:=5) (cs:=#[.bool false,I L 0,I L 0,I L 0,I L 0,I L 0,I L 0,I L 0,I L 0,I L 0,I L 0,I L 0,I L 0,I L 0,I L 0,I L 0]) (t:=52) ?_;intro l hg w8 hbox hb;have n_:=an_ (qb_ (pk_ c.out) hb)<|an_ (qc_ (pB_ HB.out) hb)<|an_ (hbox)<|an_ (bg_ hg (pB_ HB.out):w.heap.size≤l)<|an_ (bg_ hg (pB_ HB.out):w.heap.size≤l)<|an_ (nl_ hg (pk_ c.out):g≠l)<|D (by rw [hg];exact Nat.ne_of_gt (qz_ (pk_ c.out)):l≠g);clear c HB;obtain ⟨c,HB,p,aw,ax,ak,al⟩:=n_;clear hb hbox hg;(try have:=al.out);(try have:=ak.out)))
      refine relet_ (F:=fun q=>Aside0 (q.heap[g]?=some (.cells #[I L i,Y (some ai) a.length j] 26 (0,0)))∧Aside0 (q.heap[l]?=some (.cells #[.bool ((qa_ a b).f0),I L ((qa_ a b).f1.f0),I L ((qa_ a b).f1.f1.f0.f0),I L ((qa_ a b).f1.f1.f0.f1),I L ((qa_ a b).f1.f1.f0.f2),I L ((qa_ a b).f1.f1.f0.f3),I L ((qa_ a b).f1.f1.f0.f4),I L ((qa_ a b).f1.f1.f1.f0),I L ((qa_ a b).f1.f1.f1.f1),I L ((qa_ a b).f1.f1.f1.f2),I L ((qa_ a b).f1.f1.f1.f3),I L ((qa_ a b).f1.f1.f1.f4),I L ((qa_ a b).f1.f1.f2),I L ((qa_ a b).f1.f1.f3),I L ((qa_ a b).f1.f1.f4),I L ((qa_ a b).f2)] 52 (0,0)))∧Aside0 (Below w.heap.size w q)) ⟨⟨pP_ c.out⟩,⟨pP_ p.out⟩,⟨pB_ HB.out⟩⟩ ?_
      (try clear c);(try clear p);(try clear HB);rintro q ⟨c,p,HB⟩;have H:=A.out;clear A;obtain ⟨ad,x⟩:∃ b_:Bool,b_=((qa_ a b).f0):=⟨_,rfl⟩
      replace H:(if ad=true then (impl_Table_used.l0 o (wrap64 (d+1)) a (a.length:Int) (wrap64 (b+1))) else (impl_Table_used.l0 o d a (a.length:Int) (wrap64 (b+1))))=some r:=by rw [← x] at H;exact H
      have ae:=D x;clear x;(try rw [← ae.out]);(try rw [← ae.out] at p)
      by_cases s:ad=true
      ·subst s
       rw [if_pos rfl] at H;have H':=D H;clear H
       go_wp2_with (first|((with_reducible refine gld_ 4 rfl ?_);refine lc4_ ?_)|((with_reducible refine gst_ 52 rfl ?_);refine sa52_ ?_)|((with_reducible refine gld_ 52 rfl ?_);refine la52_ ?_))
       go_roundg o
       case measure=>have:=n.out;omega
       case rel=>exact ⟨(wrap64 (d+1)),(wrap64 (b+1)),Z35,Z35,H',⟨by have:=n.out;omega⟩,⟨pk_ c.out⟩,⟨pB_ HB.out⟩⟩
      ·replace s:=Bool.eq_false_iff.mpr s
       subst s;rw [if_neg (show ¬ (false=true) by decide)] at H;have H':=D H;clear H
       go_wp2_with (first|((with_reducible refine gld_ 4 rfl ?_);refine lc4_ ?_)|((with_reducible refine gst_ 52 rfl ?_);refine sa52_ ?_)|((with_reducible refine gld_ 52 rfl ?_);refine la52_ ?_))
       go_roundg o
       case measure=>have:=n.out;omega
       case rel=>exact ⟨(d),(wrap64 (b+1)),Z35,Z35,H',⟨by have:=n.out;omega⟩,⟨pk_ c.out⟩,⟨pB_ HB.out⟩⟩
     ·rw [if_neg c6] at H
      exact absurd H (by simp)
    ·rw [if_neg c5] at H
     exact absurd H (by simp)
   ·rw [if_neg c4] at H
    have ah:decide (b < (a.length:Int))=false:=decide_eq_false c4;clear c4;obtain rfl:=Option.some.inj H
    go_wp2_with (first|((with_reducible refine gld_ 4 rfl ?_);refine lc4_ ?_)|((with_reducible refine gst_ 52 rfl ?_);refine sa52_ ?_)|((with_reducible refine gld_ 52 rfl ?_);refine la52_ ?_))
    go_ret;exact ⟨er_,pB_ HB.out⟩
end Go.Proofs.Yteahaehbciccmaa.PFnPutDrop
