-- by a program of this session's, over the kit's words
import Derived.Test.YtjhgkonacdimfacPZFnExactTreeServe
import Derived.Test.YtjhgkonacdimfacPFnExactTreeServex0
import Derived.Test.YtjhgkonacdimfacPFnExactTreeServex1
import Derived.Test.YtjhgkonacdimfacPFnExactTreeServex2
namespace Go.Proofs.Ytjhgkonacdimfac.PFnExactTreeServe
open Go.RowKit Go.Proofs.YtjhgkonacdimfacW.PrintWords Go.Proofs.YtjhgkonacdimfacW.PrintLast Go.Proofs.YtjhgkonacdimfacW.PrintMore Go.Proofs.YtjhgkonacdimfacV Go.Proofs.Ytjhgkonacdimfac.ZFnExactTreeServe
open Go.Value renaming int → I, slice → Y
open Go.IntKind renaming i64 → L
open Aside0 renaming mk → D
open Option renaming bind_eq_some_iff → bs_
attribute [local go_sem] qam_ qak_ qaw_ qav_ qae_ qad_ qal_ qaj_
set_option linter.unusedVariables false
set_option linter.unusedSimpArgs false
set_option maxHeartbeats 8000000
set_option maxRecDepth 100000
def spec_l20At.l0:Nat→Int→Int→Int→Int→Int→Int→List (S75)→List (S54)→Option (Int)
 | 0,_,_,_,_,_,_,_,_=>none
 | k+1,c,a,d,e,g,h,i,b=>if a < (b.length:Int) then (if 0≤a then (if ((qc_ b a).f0)=c then (some a) else (spec_l20At.l0 k c (wrap64 (a+1)) d e g h i b)) else (none)) else (some (-1))
def spec_l20At.f (k:Nat) (a b c d:Int) (e:List (S75)) (l0_5:List (S54)) (g:Int):Option (Int):=spec_l20At.l0 k g 0 a b c d e l0_5
theorem spec_l20At.calls (k:Nat) (d g i j:Int) (m:Option Addr) (n:Nat) (b:List (S75)) (o:Option Addr) (p:Nat) (l0_5:List (S54)) (c r:Int) (w:World) (x:Kd.C k75 w m b.length b) (y:b.length≤n) (z:Kd.C k54 w o l0_5.length l0_5) (A:l0_5.length≤p) (h:spec_l20At.f k d g i j b l0_5 c=some r) :
  Calls Try.prog 17 #[.agg #[I L d,I L g,I L i,I L j,Y m b.length n,Y o l0_5.length p],I L c] w fun e w'=>e=.returned (I L r)∧Below w.heap.size w w':=by
 have hu37:=Try.underlying37
 have ad:=D x
 have ae:=D y
 clear x y
 have W:=D z
 have af:=D A
 clear z A
 have HB:=D (Below.refl w.heap.size w)
 have H:(spec_l20At.l0 k c 0 d g i j b l0_5)=some r:=h
 clear h
 have H':=D H
 clear H
 go_enter Try.func17,Try.ntmps17
 go_wp2_with (first|((with_reducible refine qh_ (N:=2) rfl ?_);refine bx_ (N:=2) (cs:=#[I L d,I L g,I L i,I L j,Y m b.length n,Y o l0_5.length p]) (t:=37) ?_;intro q hg w3 hbox hb;have n_:=an_ (qd_ (pB_ HB.out) hb)<|an_ (hbox)<|an_ (bg_ hg (pB_ HB.out):w.heap.size≤q)<|D (bg_ hg (pB_ HB.out):w.heap.size≤q);clear HB;obtain ⟨HB,l,ah,ai⟩:=n_;clear hb hbox hg))
 go_loopg [5] k (fun kq X w'=>∃ (a:Int),X=I L a∧Aside0 (spec_l20At.l0 kq c a d g i j b l0_5=some r)∧Aside0 (kq≤k)∧Aside0 (w'.heap[q]?=some (.cells #[I L d,I L g,I L i,I L j,(Y m b.length n),(Y o l0_5.length p)] 37 (0,0)))∧Aside0 (Below w.heap.size w w'))
 case atStart=>exact ⟨(0),Z92,H',⟨Nat.le_refl _⟩,⟨pk_ l.out⟩,⟨pB_ HB.out⟩⟩
 case round =>
  clear H'
  (try clear c1);(try clear p2)
  obtain ⟨a,rfl,HA,B,l,HB⟩:=hrel
  cases gk with
  | zero=>exact absurd HA.out (by simp [spec_l20At.l0])
  | succ Z =>
   have H:=HA.out;clear HA;simp only [spec_l20At.l0] at H
   by_cases c4:a < (l0_5.length:Int)
   ·rw [if_pos c4] at H
    have aa:decide (a < (l0_5.length:Int))=true:=decide_eq_true c4;clear c4
    by_cases c5:0≤a
    ·rw [if_pos c5] at H
     have al:decide (0≤a)=true:=decide_eq_true c5;clear c5;have E:=D H;clear H;obtain ⟨am,an,ao,ap,aq,ar,au,av,aw,ax,ay,az⟩:=qm_ l.out;have s:0≤(a:Int):=od_ Z91;have u:a < (l0_5.length:Int):=od_ Z91;obtain ⟨aA,aB,aC,ab,G,J,K,M,O,P,T,U⟩:=qaz_ W.out a s u;cases ab;replace G:=rc_ HB.out G;replace J:=rc_ HB.out J;replace K:=rc_ HB.out K;replace M:=rc_ HB.out M;replace O:=rc_ HB.out O;replace P:=rc_ HB.out P;have aD:=D U;have aE:=D T;clear U T;replace s:=eq_true s;replace u:=eq_true u
     go_upto_if 20 with (fail)
     have H:=E.out;clear E
     by_cases c8:((qc_ l0_5 a).f0)=c
     ·rw [if_pos c8] at H
      have v:(((qc_ l0_5 a).f0) == c)=true:=beq_iff_eq.mpr c8;have ac:(((qc_ l0_5 a).f0) != c)=false:=bne_eq_false_iff_eq.mpr c8;clear c8;refine rw_ v ?_;obtain rfl:=Option.some.inj H
      go_wp2
      go_ret;exact ⟨er_,pB_ HB.out⟩
     ·rw [if_neg c8] at H
      have v:(((qc_ l0_5 a).f0) == c)=false:=beq_eq_false_iff_ne.mpr c8;have ac:(((qc_ l0_5 a).f0) != c)=true:=bne_iff_ne.mpr c8;refine rw_ v ?_;have H':=D H;clear H
      go_wp2
      go_roundg Z
      case measure=>have:=B.out;omega
      case rel=>exact ⟨(wrap64 (a+1)),Z92,H',⟨by have:=B.out;omega⟩,⟨pk_ l.out⟩,⟨pB_ HB.out⟩⟩
    ·rw [if_neg c5] at H
     exact absurd H (by simp)
   ·rw [if_neg c4] at H
    have aa:decide (a < (l0_5.length:Int))=false:=decide_eq_false c4;clear c4;obtain rfl:=Option.some.inj H;obtain ⟨aF,aG,aH,aI,aJ,aK,aL,aM,aN,aO,aP,aQ⟩:=qm_ l.out
    go_wp2
    go_ret;exact ⟨er_,pB_ HB.out⟩
def spec_FairPick.l0:Nat→Int→Int→Int→Int→Int→Int→List (S75)→Option (Int)
 | 0,_,_,_,_,_,_,_=>none
 | k+1,b,c,d,e,g,h,a=>if c < (a.length:Int) then (if 0≤c then (if (qb_ a c).f2=true then (if b < 0 then (spec_FairPick.l0 k c (wrap64 (c+1)) d e g h a) else ((spec_VecTop.f ((qb_ a c).f3.f0) ((qb_ a c).f3.f1) ((qb_ a c).f3.f2)).bind fun i=>(if 0≤b then (if b < (a.length:Int) then ((spec_VecTop.f ((qb_ a b).f3.f0) ((qb_ a b).f3.f1) ((qb_ a b).f3.f2)).bind fun j=>(if i < j then (spec_FairPick.l0 k c (wrap64 (c+1)) d e g h a) else (spec_FairPick.l0 k b (wrap64 (c+1)) d e g h a))) else (none)) else (none)))) else (spec_FairPick.l0 k b (wrap64 (c+1)) d e g h a)) else (none)) else (if b < 0 then (some (-1)) else (if 0≤b then (if b < (a.length:Int) then (some ((qb_ a b).f0)) else (none)) else (none)))
def spec_FairPick.f (k:Nat) (a b c d:Int) (e:List (S75)):Option (Int):=(spec_FairOk.f k a b c d e).bind fun g=>(if g=true then (spec_FairPick.l0 k (-1) 0 a b c d e) else (some (-1)))
def spec_FairPick.T7:Bool×List (List Nat×List Nat):=(true,[([],[]),([0],[0]),([],[]),([1,2],[1,2]),([3],[3]),([4],[4]),([5],[5]),([6],[6]),([7,6],[6,7]),([8,6,6],[6,8]),([9],[9]),([10,9],[9,10]),([9],[9]),([11,12,9],[9,11,12]),([13,9],[9,13]),([14,9],[9,14]),([15,9,9],[9,15]),([9],[9]),([17,9],[9,17]),([9],[9]),([18,19,9],[9,18,19]),([20,9],[9,20]),([21,9],[9,21]),([22,16,9],[9,22]),([16,23,9],[9,16,23]),([9,24,6],[6,9,24]),([6,25],[6,25])])
def spec_FairPick.B7:List Nat:=[0,1,0,7,15,31,63,127,255,511,1023,2047,1023,8191,16383,32767,65535,1023,132095,1023,918527,1967103,4064255,8388607,16777215,33554431,67108863]
theorem spec_FairPick.tab7:rtab .any (opsOf Try.f40 7)=spec_FairPick.T7:=by kernel_rfl
theorem spec_FairPick.bits7:q3_ spec_FairPick.T7.2 spec_FairPick.B7=true:=by kernel_rfl
theorem spec_FairPick.calls (k:Nat) (i j l m:Int) (Z:Option Addr) (A:Nat) (b:List (S75)) (r:Int) (w:World) (aP:Kd.C k75 w Z b.length b) (aQ:b.length≤A) (h:spec_FairPick.f k i j l m b=some r) :
  Calls Try.prog 40 #[.agg #[I L i,I L j,I L l,I L m,Y Z b.length A]] w fun e w'=>e=.returned (I L r)∧Below w.heap.size w w':=by
 have hu34:=Try.underlying34
 have hu31:=Try.underlying31
 have G:=D aP
 have a3:=D aQ
 clear aP aQ
 have HB:=D (Below.refl w.heap.size w)
 have H:((spec_FairOk.f k i j l m b).bind fun Ua=>(if Ua=true then (spec_FairPick.l0 k (-1) 0 i j l m b) else (some (-1))))=some r:=h
 clear h
 obtain ⟨Ua,aR,H⟩:=bs_.mp H
 (try dsimp only at H)
 have A2:=D aR
 clear aR
 have aS:=D H
 clear H
 go_enter Try.func40,Try.ntmps40
 go_upto_if 7 with (first|((with_reducible refine qh_ (N:=1) rfl ?_);refine bx_ (N:=1) (cs:=#[I L i,I L j,I L l,I L m,Y Z b.length A]) (t:=34) ?_;intro Ka hg w4 hbox hb;have n_:=an_ (qd_ (pB_ HB.out) hb)<|an_ (hbox)<|an_ (bg_ hg (pB_ HB.out):w.heap.size≤Ka)<|D (bg_ hg (pB_ HB.out):w.heap.size≤Ka);clear HB;obtain ⟨HB,Ja,Oc,Uc⟩:=n_;clear hb hbox hg;obtain ⟨Xa,Jb,Kb,Mb,Ob,Ub,Xb,Jc,Kc,Mc⟩:=qx_ Ja.out)|((with_reducible refine qe_ (f:=38) rfl ?_);refine qp_ (some 6) rfl rfl Try.func38 (by kernel_rfl) rfl #[.agg #[I L i,I L j,I L l,I L m,Y Z b.length A]] rfl Z24 ?_;(with_reducible refine (spec_FairOk.calls k i j l m _ _ b Ua _ ?side1 ?side2 A2.out).mono ?_);(case side1=>exact pC_ (Kd.C_below G.out HB.out));(case side2=>exact a3.out);rintro e w6 ⟨rfl,hb⟩;refine ⟨_,rfl,?_⟩;have n_:=an_ (qa_ (pk_ Ja.out) hb)<|D (qd_ (pB_ HB.out) hb);clear Ja HB;obtain ⟨Ja,HB⟩:=n_;(try clear hb)))
 have H:=aS.out
 clear aS
 by_cases c7:Ua=true
 ·subst c7
  rw [if_pos rfl] at H;have H':=D H;clear H
  go_wp2
  go_loopg [3,4] k (fun kq v3 v4 w'=>∃ (d:Int) (a:Int),v3=I L d∧v4=I L a∧Aside0 (spec_FairPick.l0 kq d a i j l m b=some r)∧Aside0 (kq≤k)∧Aside0 (w'.heap[Ka]?=some (.cells #[I L i,I L j,I L l,I L m,(Y Z b.length A)] 34 (0,0)))∧Aside0 (Below w.heap.size w w'))
  case atStart=>exact ⟨((-1)),(0),Z92,Z92,H',⟨Nat.le_refl _⟩,⟨pk_ Ja.out⟩,⟨pB_ HB.out⟩⟩
  case round =>
   clear H'
   (try clear p2);(try clear c3);(try clear c4);(try clear c7);(try clear Xa Jb Kb Mb Ob Ub Xb Jc Kc Mc)
   obtain ⟨d,a,rfl,rfl,HA,B,Ja,HB⟩:=hrel
   cases gk with
   | zero=>exact absurd HA.out (by simp [spec_FairPick.l0])
   | succ E =>
    have H:=HA.out;clear HA;simp only [spec_FairPick.l0] at H
    by_cases c8:a < (b.length:Int)
    ·rw [if_pos c8] at H
     have aw:decide (a < (b.length:Int))=true:=decide_eq_true c8;clear c8;refine rw_ aw ?_
     by_cases c9:0≤a
     ·rw [if_pos c9] at H
      have bj:decide (0≤a)=true:=decide_eq_true c9;clear c9;obtain ⟨aT,ax⟩:∃ b_:Bool,b_=((qb_ b a).f2):=⟨_,rfl⟩
      replace H:(if aT=true then (if d < 0 then (spec_FairPick.l0 E a (wrap64 (a+1)) i j l m b) else ((spec_VecTop.f ((qb_ b a).f3.f0) ((qb_ b a).f3.f1) ((qb_ b a).f3.f2)).bind fun Ma=>(if 0≤d then (if d < (b.length:Int) then ((spec_VecTop.f ((qb_ b d).f3.f0) ((qb_ b d).f3.f1) ((qb_ b d).f3.f2)).bind fun Oa=>(if Ma < Oa then (spec_FairPick.l0 E a (wrap64 (a+1)) i j l m b) else (spec_FairPick.l0 E d (wrap64 (a+1)) i j l m b))) else (none)) else (none)))) else (spec_FairPick.l0 E d (wrap64 (a+1)) i j l m b))=some r:=by rw [← ax] at H;exact H
      have y:=D ax;clear ax
      by_cases ad:aT=true
      ·subst ad
       rw [if_pos rfl] at H
       by_cases U:d < 0
       ·rw [if_pos U] at H
        have a7:decide (d < 0)=true:=decide_eq_true U;clear U;have H':=D H;clear H;obtain ⟨Xc,Jd,Md,Od,Ud,Xd,Je,Ke,Me,Oe⟩:=qx_ Ja.out
        try go_wp2
        have n_:=an_ (qi_ Ja.out)<|D (ql_ HB.out)
        clear Ja HB;obtain ⟨Ja,HB⟩:=n_;have v:0≤(a:Int):=od_ Z91;have x:a < (b.length:Int):=od_ Z91;obtain ⟨c,aa,o,p,g,q,s,u⟩:=qac_ G.out a v x;have J:=u;have M:=s;have O:=q;have z:=g;have P:=p;have T:=o;(try rw [← y.out] at g);(try rw [← y.out] at z);cases aa;replace o:=rc_ HB.out o;replace p:=rc_ HB.out p;replace g:=rc_ HB.out g;replace q:=rc_ HB.out q;replace s:=rc_ HB.out s;replace u:=rc_ HB.out u;replace v:=eq_true v;replace x:=eq_true x;refine q1_ (n:=27) (S:=fun w'=>w'.cell? ⟨Ka,0,none⟩=some (I L i)∧w'.cell? ⟨Ka,1,none⟩=some (I L j)∧w'.cell? ⟨Ka,2,none⟩=some (I L l)∧w'.cell? ⟨Ka,3,none⟩=some (I L m)∧w'.cell? ⟨Ka,4,none⟩=some (Y (some c) b.length A)∧w'.cell? (c.add ((a).toNat * 6))=some (I L ((qb_ b a).f0))∧w'.cell? ⟨(c.add ((a).toNat * 6)).block,(c.add ((a).toNat * 6)).off+1,none⟩=some (I L ((qb_ b a).f1))∧w'.cell? ⟨(c.add ((a).toNat * 6)).block,(c.add ((a).toNat * 6)).off+2,none⟩=some (.bool true)∧w'.cell? ⟨(c.add ((a).toNat * 6)).block,(c.add ((a).toNat * 6)).off+3,none⟩=some (I L ((qb_ b a).f3.f0))∧w'.cell? ⟨(c.add ((a).toNat * 6)).block,(c.add ((a).toNat * 6)).off+4,none⟩=some (I L ((qb_ b a).f3.f1))∧w'.cell? ⟨(c.add ((a).toNat * 6)).block,(c.add ((a).toNat * 6)).off+5,none⟩=some (I L ((qb_ b a).f3.f2))) (ds:=[]) (bz 27 0) (by kernel_rfl) rfl (by kernel_rfl) (bk5_ Ja.out (re6_ HB.out T P z O M J)) (fun hHeld=>?_);refine qn_ spec_FairPick.tab7 spec_FairPick.bits7 (fun HT_ HW_=>?_);generalize wr.drew=bk at Ja HB o p g q s u hHeld ⊢;refine pb_ 0 ?_;refine pb_ 2 ?_;refine tb_ 1 rfl rfl hHeld Z85 ?_;refine pb_ 3 ?_;refine pb_ 4 ?_;refine tb_ 5 rfl rfl hHeld Z85 ?_;refine pb_ 6 ?_;refine pb_ 7 ?_;refine pb_ 8 ?_;refine pb_ 9 ?_;refine ob_ 10 ?_;refine ob_ 11 ?_
        refine ob_ 12 ?_;refine ob_ 13 ?_;refine ob_ 14 ?_;refine ob_ 15 ?_;refine ob_ 16 ?_;refine ob_ 17 ?_;refine ob_ 18 ?_;refine ob_ 19 ?_;refine ob_ 20 ?_;refine ob_ 21 ?_;refine ob_ 22 ?_;refine ob_ 23 ?_;refine ob_ 24 ?_;refine pb_ 25 ?_;refine pb_ 26 ?_;refine done_ (qv_ HT_.out (by kernel_rfl)) ?_
        try go_wp2
        go_roundg E
        case measure=>have:=B.out;omega
        case rel=>exact ⟨(a),(wrap64 (a+1)),Z92,Z92,H',⟨by have:=B.out;omega⟩,⟨pk_ Ja.out⟩,⟨pB_ HB.out⟩⟩
       ·rw [if_neg U] at H
        have a7:decide (d < 0)=false:=decide_eq_false U;clear U;obtain ⟨Ma,aU,H⟩:=bs_.mp H;(try dsimp only at H);have a8:=D aU;clear aU
        by_cases ae:0≤d
        ·rw [if_pos ae] at H
         have bl:decide (0≤d)=true:=decide_eq_true ae;clear ae
         by_cases af:d < (b.length:Int)
         ·rw [if_pos af] at H
          have bm:decide (d < (b.length:Int))=true:=decide_eq_true af;clear af;obtain ⟨Oa,aV,H⟩:=bs_.mp H;(try dsimp only at H);have a9:=D aV;clear aV;have aW:=D H;clear H;obtain ⟨Ue,Xe,Jf,Kf,Mf,Of,Uf,Xf,Jg,Kg⟩:=qx_ Ja.out
          try go_wp2
          have n_:=an_ (qi_ Ja.out)<|D (ql_ HB.out)
          clear Ja HB;obtain ⟨Ja,HB⟩:=n_;have v:0≤(a:Int):=od_ Z91;have x:a < (b.length:Int):=od_ Z91;obtain ⟨c,aa,o,p,g,q,s,u⟩:=qac_ G.out a v x;have J:=u;have M:=s;have O:=q;have z:=g;have P:=p;have T:=o;(try rw [← y.out] at g);(try rw [← y.out] at z);cases aa;replace o:=rc_ HB.out o;replace p:=rc_ HB.out p;replace g:=rc_ HB.out g;replace q:=rc_ HB.out q;replace s:=rc_ HB.out s;replace u:=rc_ HB.out u;replace v:=eq_true v;replace x:=eq_true x;have ay:0≤(a:Int):=od_ Z91;have az:a < (b.length:Int):=od_ Z91;obtain ⟨ba,bb,ag,ah,ab,ai,aj,ak⟩:=qac_ G.out a ay az;have aA:=ak;have aB:=aj;have aC:=ai;have al:=ab;have aD:=ah;have aE:=ag;(try rw [← y.out] at ab);(try rw [← y.out] at al);obtain rfl:c=ba:=(by injection bb);replace ag:=rc_ HB.out ag;replace ah:=rc_ HB.out ah;replace ab:=rc_ HB.out ab;replace ai:=rc_ HB.out ai;replace aj:=rc_ HB.out aj;replace ak:=rc_ HB.out ak;replace ay:=eq_true ay;replace az:=eq_true az;have aF:0≤(d:Int):=od_ Z91;have aG:d < (b.length:Int):=od_ Z91;obtain ⟨bc,bd,am,an,ac,ao,ap,aq⟩:=qac_ G.out d aF aG;have aH:=aq;have aI:=ap;have aJ:=ao;have ar:=ac;have aK:=an;have aL:=am;(try rw [← y.out] at ac);(try rw [← y.out] at ar);obtain rfl:c=bc:=(by injection bd);replace am:=rc_ HB.out am;replace an:=rc_ HB.out an;replace ac:=rc_ HB.out ac;replace ao:=rc_ HB.out ao;replace ap:=rc_ HB.out ap;replace aq:=rc_ HB.out aq;replace aF:=eq_true aF;replace aG:=eq_true aG;refine q1_ (n:=27) (S:=fun w'=>w'.cell? ⟨Ka,0,none⟩=some (I L i)∧w'.cell? ⟨Ka,1,none⟩=some (I L j)∧w'.cell? ⟨Ka,2,none⟩=some (I L l)∧w'.cell? ⟨Ka,3,none⟩=some (I L m)∧w'.cell? ⟨Ka,4,none⟩=some (Y (some c) b.length A)∧w'.cell? (c.add ((a).toNat * 6))=some (I L ((qb_ b a).f0))∧w'.cell? ⟨(c.add ((a).toNat * 6)).block,(c.add ((a).toNat * 6)).off+1,none⟩=some (I L ((qb_ b a).f1))∧w'.cell? ⟨(c.add ((a).toNat * 6)).block,(c.add ((a).toNat * 6)).off+2,none⟩=some (.bool true)∧w'.cell? ⟨(c.add ((a).toNat * 6)).block,(c.add ((a).toNat * 6)).off+3,none⟩=some (I L ((qb_ b a).f3.f0))∧w'.cell? ⟨(c.add ((a).toNat * 6)).block,(c.add ((a).toNat * 6)).off+4,none⟩=some (I L ((qb_ b a).f3.f1))∧w'.cell? ⟨(c.add ((a).toNat * 6)).block,(c.add ((a).toNat * 6)).off+5,none⟩=some (I L ((qb_ b a).f3.f2))∧w'.cell? (c.add ((a).toNat * 6))=some (I L ((qb_ b a).f0))∧w'.cell? ⟨(c.add ((a).toNat * 6)).block,(c.add ((a).toNat * 6)).off+1,none⟩=some (I L ((qb_ b a).f1))∧w'.cell? ⟨(c.add ((a).toNat * 6)).block,(c.add ((a).toNat * 6)).off+2,none⟩=some (.bool (true))∧w'.cell? ⟨(c.add ((a).toNat * 6)).block,(c.add ((a).toNat * 6)).off+3,none⟩=some (I L ((qb_ b a).f3.f0))∧w'.cell? ⟨(c.add ((a).toNat * 6)).block,(c.add ((a).toNat * 6)).off+4,none⟩=some (I L ((qb_ b a).f3.f1))∧w'.cell? ⟨(c.add ((a).toNat * 6)).block,(c.add ((a).toNat * 6)).off+5,none⟩=some (I L ((qb_ b a).f3.f2))∧w'.cell? (c.add ((d).toNat * 6))=some (I L ((qb_ b d).f0))∧w'.cell? ⟨(c.add ((d).toNat * 6)).block,(c.add ((d).toNat * 6)).off+1,none⟩=some (I L ((qb_ b d).f1))∧w'.cell? ⟨(c.add ((d).toNat * 6)).block,(c.add ((d).toNat * 6)).off+2,none⟩=some (.bool ((qb_ b d).f2))∧w'.cell? ⟨(c.add ((d).toNat * 6)).block,(c.add ((d).toNat * 6)).off+3,none⟩=some (I L ((qb_ b d).f3.f0))∧w'.cell? ⟨(c.add ((d).toNat * 6)).block,(c.add ((d).toNat * 6)).off+4,none⟩=some (I L ((qb_ b d).f3.f1))∧w'.cell? ⟨(c.add ((d).toNat * 6)).block,(c.add ((d).toNat * 6)).off+5,none⟩=some (I L ((qb_ b d).f3.f2))) (ds:=[]) (bz 27 0) (by kernel_rfl) rfl (by kernel_rfl) (bk5_ Ja.out (rk6_ HB.out T P z O M J (rk6_ HB.out aE aD al aC aB aA (re6_ HB.out aL aK ar aJ aI aH)))) (fun hHeld=>?_);refine qn_ spec_FairPick.tab7 spec_FairPick.bits7 (fun HT_ HW_=>?_)
          generalize wr.drew=bn at Ja HB o p g q s u ag ah ab ai aj ak am an ac ao ap aq hHeld ⊢;refine pb_ 0 ?_;refine pb_ 2 ?_;refine tb_ 1 rfl rfl hHeld Z23 ?_;refine pb_ 3 ?_;refine pb_ 4 ?_;refine tb_ 5 rfl rfl hHeld Z23 ?_;refine pb_ 6 ?_;refine pb_ 7 ?_;refine pb_ 8 ?_;refine pb_ 9 ?_;refine pb_ 10 ?_;refine pb_ 12 ?_;refine pb_ 17 ?_;refine pb_ 19 ?_;refine tb_ 11 rfl rfl hHeld Z23 ?_;refine pb_ 13 ?_;refine pb_ 14 ?_;refine tb_ 15 rfl rfl hHeld Z23 ?_;refine tb_ 18 rfl rfl hHeld Z23 ?_;refine pb_ 20 ?_;refine pb_ 21 ?_;refine tb_ 22 rfl rfl hHeld Z23 ?_;refine oa_ 16 31 27 8388607 HT_ (fun K hK=>?_);refine goes_ Try.func44 (by kernel_rfl) rfl #[.agg #[I L ((qb_ b a).f3.f0),I L ((qb_ b a).f3.f1),I L ((qb_ b a).f3.f2)]] (by rfl) rfl rfl Z24 ?_;with_reducible refine (spec_VecTop.calls ((qb_ b a).f3.f0) ((qb_ b a).f3.f1) ((qb_ b a).f3.f2) Ma _ a8.out).mono ?_
          rintro e bo ⟨rfl,hb⟩;refine ⟨_,rfl,?_⟩
          have n_:=an_ (qa_ (pk_ Ja.out) hb)<|D (qd_ (pB_ HB.out) hb)
          clear Ja HB;obtain ⟨Ja,HB⟩:=n_;refine hK.out _ _ (bk5_ Ja.out (rk6_ HB.out T P z O M J (rk6_ HB.out aE aD al aC aB aA (re6_ HB.out aL aK ar aJ aI aH)))) (fun hHeld=>?_);clear hK K;refine nx_ (N:=some 31) ?_;refine oa_ 23 38 27 16777215 HT_ (fun K hK=>?_);refine goes_ Try.func44 (by kernel_rfl) rfl #[.agg #[I L ((qb_ b d).f3.f0),I L ((qb_ b d).f3.f1),I L ((qb_ b d).f3.f2)]] (by rfl) rfl rfl Z24 ?_;with_reducible refine (spec_VecTop.calls ((qb_ b d).f3.f0) ((qb_ b d).f3.f1) ((qb_ b d).f3.f2) Oa _ a9.out).mono ?_
          rintro e bp ⟨rfl,hb⟩;refine ⟨_,rfl,?_⟩
          have n_:=an_ (qa_ (pk_ Ja.out) hb)<|D (qd_ (pB_ HB.out) hb)
          clear Ja HB;obtain ⟨Ja,HB⟩:=n_;refine hK.out _ _ (bk5_ Ja.out (rk6_ HB.out T P z O M J (rk6_ HB.out aE aD al aC aB aA (re6_ HB.out aL aK ar aJ aI aH)))) (fun hHeld=>?_);clear hK K;refine nx_ (N:=some 38) ?_;refine pb_ 24 ?_;refine pb_ 25 ?_;refine pb_ 26 ?_;refine done_ (qv_ HT_.out (by kernel_rfl)) ?_
          go_upto_if 41 with (fail)
          have H:=aW.out;clear aW
          by_cases W:Ma < Oa
          ·rw [if_pos W] at H
           have aM:decide (Ma < Oa)=true:=decide_eq_true W;clear W;refine rw_ aM ?_;have H':=D H;clear H
           go_wp2
           go_roundg E
           case measure=>have:=B.out;omega
           case rel=>exact ⟨(a),(wrap64 (a+1)),Z92,Z92,H',⟨by have:=B.out;omega⟩,⟨pk_ Ja.out⟩,⟨pB_ HB.out⟩⟩
          ·rw [if_neg W] at H
           have aM:decide (Ma < Oa)=false:=decide_eq_false W;clear W;refine rw_ aM ?_;have H':=D H;clear H
           go_wp2
           go_roundg E
           case measure=>have:=B.out;omega
           case rel=>exact ⟨(d),(wrap64 (a+1)),Z92,Z92,H',⟨by have:=B.out;omega⟩,⟨pk_ Ja.out⟩,⟨pB_ HB.out⟩⟩
         ·rw [if_neg af] at H
          exact absurd H (by simp)
        ·rw [if_neg ae] at H
         exact absurd H (by simp)
      ·replace ad:=Bool.eq_false_iff.mpr ad
       subst ad;rw [if_neg (show ¬ (false=true) by decide)] at H;have H':=D H;clear H;obtain ⟨Mg,Og,Ug,Xg,Jh,Kh,Mh,Oh,Uh,Xh⟩:=qx_ Ja.out
       try go_wp2
       have n_:=an_ (qi_ Ja.out)<|D (ql_ HB.out)
       clear Ja HB;obtain ⟨Ja,HB⟩:=n_;have v:0≤(a:Int):=od_ Z91;have x:a < (b.length:Int):=od_ Z91;obtain ⟨c,aa,o,p,g,q,s,u⟩:=qac_ G.out a v x;have J:=u;have M:=s;have O:=q;have z:=g;have P:=p;have T:=o;(try rw [← y.out] at g);(try rw [← y.out] at z);cases aa;replace o:=rc_ HB.out o;replace p:=rc_ HB.out p;replace g:=rc_ HB.out g;replace q:=rc_ HB.out q;replace s:=rc_ HB.out s;replace u:=rc_ HB.out u;replace v:=eq_true v;replace x:=eq_true x;refine q1_ (n:=27) (S:=fun w'=>w'.cell? ⟨Ka,0,none⟩=some (I L i)∧w'.cell? ⟨Ka,1,none⟩=some (I L j)∧w'.cell? ⟨Ka,2,none⟩=some (I L l)∧w'.cell? ⟨Ka,3,none⟩=some (I L m)∧w'.cell? ⟨Ka,4,none⟩=some (Y (some c) b.length A)∧w'.cell? (c.add ((a).toNat * 6))=some (I L ((qb_ b a).f0))∧w'.cell? ⟨(c.add ((a).toNat * 6)).block,(c.add ((a).toNat * 6)).off+1,none⟩=some (I L ((qb_ b a).f1))∧w'.cell? ⟨(c.add ((a).toNat * 6)).block,(c.add ((a).toNat * 6)).off+2,none⟩=some (.bool false)∧w'.cell? ⟨(c.add ((a).toNat * 6)).block,(c.add ((a).toNat * 6)).off+3,none⟩=some (I L ((qb_ b a).f3.f0))∧w'.cell? ⟨(c.add ((a).toNat * 6)).block,(c.add ((a).toNat * 6)).off+4,none⟩=some (I L ((qb_ b a).f3.f1))∧w'.cell? ⟨(c.add ((a).toNat * 6)).block,(c.add ((a).toNat * 6)).off+5,none⟩=some (I L ((qb_ b a).f3.f2))) (ds:=[]) (bz 27 0) (by kernel_rfl) rfl (by kernel_rfl) (bk5_ Ja.out (re6_ HB.out T P z O M J)) (fun hHeld=>?_);refine qn_ spec_FairPick.tab7 spec_FairPick.bits7 (fun HT_ HW_=>?_);generalize wr.drew=bq at Ja HB o p g q s u hHeld ⊢;refine pb_ 0 ?_;refine pb_ 2 ?_;refine tb_ 1 rfl rfl hHeld Z85 ?_;refine pb_ 3 ?_;refine pb_ 4 ?_;refine tb_ 5 rfl rfl hHeld Z85 ?_;refine pb_ 6 ?_;refine ob_ 7 ?_;refine ob_ 8 ?_;refine ob_ 9 ?_;refine ob_ 10 ?_;refine ob_ 11 ?_
       refine ob_ 12 ?_;refine ob_ 13 ?_;refine ob_ 14 ?_;refine ob_ 15 ?_;refine ob_ 16 ?_;refine ob_ 17 ?_;refine ob_ 18 ?_;refine ob_ 19 ?_;refine ob_ 20 ?_;refine ob_ 21 ?_;refine ob_ 22 ?_;refine ob_ 23 ?_;refine ob_ 24 ?_;refine ob_ 25 ?_;refine pb_ 26 ?_;refine done_ (qv_ HT_.out (by kernel_rfl)) ?_
       try go_wp2
       go_roundg E
       case measure=>have:=B.out;omega
       case rel=>exact ⟨(d),(wrap64 (a+1)),Z92,Z92,H',⟨by have:=B.out;omega⟩,⟨pk_ Ja.out⟩,⟨pB_ HB.out⟩⟩
     ·rw [if_neg c9] at H
      exact absurd H (by simp)
    ·rw [if_neg c8] at H
     have aw:decide (a < (b.length:Int))=false:=decide_eq_false c8;clear c8;refine rw_ aw ?_
     by_cases X:d < 0
     ·rw [if_pos X] at H
      have be:decide (d < 0)=true:=decide_eq_true X;clear X;obtain rfl:=Option.some.inj H;obtain ⟨Ji,Ki,Mi,Oi,Ui,Xi,Jj,Kj,Mj,Oj⟩:=qx_ Ja.out
      go_wp2
      go_ret;exact ⟨er_,pB_ HB.out⟩
     ·rw [if_neg X] at H
      have be:decide (d < 0)=false:=decide_eq_false X;clear X
      by_cases au:0≤d
      ·rw [if_pos au] at H
       have bs:decide (0≤d)=true:=decide_eq_true au;clear au
       by_cases av:d < (b.length:Int)
       ·rw [if_pos av] at H
        have bu:decide (d < (b.length:Int))=true:=decide_eq_true av;clear av;obtain rfl:=Option.some.inj H;obtain ⟨Uj,Xj,Jk,Kk,Mk,Ok,Uk,Xk,Jm,Km⟩:=qx_ Ja.out;have aN:0≤(d:Int):=od_ Z91;have aO:d < (b.length:Int):=od_ Z91;obtain ⟨bv,bf,aX,aY,aZ,a0,a1,a2⟩:=qac_ G.out d aN aO;cases bf;replace aX:=rc_ HB.out aX;replace aY:=rc_ HB.out aY;replace aZ:=rc_ HB.out aZ;replace a0:=rc_ HB.out a0;replace a1:=rc_ HB.out a1;replace a2:=rc_ HB.out a2;replace aN:=eq_true aN;replace aO:=eq_true aO
        go_wp2
        go_ret;exact ⟨er_,pB_ HB.out⟩
       ·rw [if_neg av] at H
        exact absurd H (by simp)
      ·rw [if_neg au] at H
       exact absurd H (by simp)
 ·replace c7:=Bool.eq_false_iff.mpr c7
  subst c7;rw [if_neg (show ¬ (false=true) by decide)] at H;obtain rfl:=Option.some.inj H
  go_wp2
  go_ret;exact ⟨er_,pB_ HB.out⟩
end Go.Proofs.Ytjhgkonacdimfac.PFnExactTreeServe
