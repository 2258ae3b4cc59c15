-- by a program of this session's, over the kit's words
import Derived.Test.YtjhgkonacdimfacPZFnExactTreeServe
import Derived.Test.YtjhgkonacdimfacPFnExactTreeServex0
namespace Go.Proofs.Ytjhgkonacdimfac.PFnExactTreeServe
open Go.RowKit Go.Proofs.YtjhgkonacdimfacW.PrintWords Go.Proofs.YtjhgkonacdimfacW.PrintLast Go.Proofs.YtjhgkonacdimfacW.PrintMore Go.Proofs.YtjhgkonacdimfacV Go.Proofs.Ytjhgkonacdimfac.ZFnExactTreeServe
open Go.Value renaming int → I, slice → Y
open Go.IntKind renaming i64 → L
open Aside0 renaming mk → D
open Option renaming bind_eq_some_iff → bs_
attribute [local go_sem] qam_ qak_ qaw_ qav_ qae_ qad_ qal_ qaj_
set_option linter.unusedVariables false
set_option linter.unusedSimpArgs false
set_option maxHeartbeats 8000000
set_option maxRecDepth 100000
def laws_szKidS.f (l0:List (S100)) (a:Int):Option (Int):=if (wrap64 (a - (l0.length:Int))) < 0 then (some (-1)) else (some (wrap64 (a - (l0.length:Int))))
theorem laws_szKidS.calls (b:Option Addr) (c:Nat) (l0:List (S100)) (a r:Int) (w:World) (d:Kd.C k100 w b l0.length l0) (g:l0.length≤c) (h:laws_szKidS.f l0 a=some r) :
  Calls Try.prog 36 #[Y b l0.length c,I L a] w fun e w'=>e=.returned (I L r)∧Drawn0 w w':=by
 have j:=D d
 have k:=D g
 clear d g
 have H:(if (wrap64 (a - (l0.length:Int))) < 0 then (some (-1)) else (some (wrap64 (a - (l0.length:Int)))))=some r:=h
 clear h
 by_cases c3:(wrap64 (a - (l0.length:Int))) < 0
 ·rw [if_pos c3] at H
  have i:decide ((wrap64 (a - (l0.length:Int))) < 0)=true:=decide_eq_true c3;clear c3;obtain rfl:=Option.some.inj H;go_enter Try.func36,Try.ntmps36
  go_wp2
  go_ret;exact ⟨by first | rfl | (simp;done) | (simp [*];done),by repeat (first | exact Drawn0.refl _ | apply Drawn0.step)⟩
 ·rw [if_neg c3] at H
  have i:decide ((wrap64 (a - (l0.length:Int))) < 0)=false:=decide_eq_false c3;clear c3;obtain rfl:=Option.some.inj H;go_enter Try.func36,Try.ntmps36
  go_wp2
  go_ret;exact ⟨by first | rfl | (simp;done) | (simp [*];done),by repeat (first | exact Drawn0.refl _ | apply Drawn0.step)⟩
def laws_szFair.f (d e g h:Int) (b:List (S100)) (c:Int):Option (Int):=(laws_szKidS.f b c).bind fun a=>(if a < 0 then (some (-1)) else (some a))
theorem laws_szFair.calls (i j k l:Int) (d:Option Addr) (g:Nat) (a:List (S100)) (c r:Int) (w:World) (n:Kd.C k100 w d a.length a) (o:a.length≤g) (h:laws_szFair.f i j k l a c=some r) :
  Calls Try.prog 12 #[.agg #[I L i,I L j,I L k,I L l,Y d a.length g],I L c] w fun e w'=>e=.returned (I L r)∧Below w.heap.size w w':=by
 have hu26:=Try.underlying26
 have u:=D n
 have v:=D o
 clear n o
 have HB:=D (Below.refl w.heap.size w)
 have H:((laws_szKidS.f a c).bind fun b=>(if b < 0 then (some (-1)) else (some b)))=some r:=h
 clear h
 obtain ⟨b,p,H⟩:=bs_.mp H
 (try dsimp only at H)
 have x:=D p
 clear p
 have q:=D H
 clear H
 go_enter Try.func12,Try.ntmps12
 go_upto_if 10 with (first|((with_reducible refine qh_ (N:=2) rfl ?_);refine bx_ (N:=2) (cs:=#[I L i,I L j,I L k,I L l,Y d a.length g]) (t:=26) ?_;intro s hg z hbox hb;have n_:=an_ (qd_ (pB_ HB.out) hb)<|an_ (hbox)<|an_ (bg_ hg (pB_ HB.out):w.heap.size≤s)<|D (bg_ hg (pB_ HB.out):w.heap.size≤s);clear HB;obtain ⟨HB,y,A,B⟩:=n_;clear hb hbox hg;obtain ⟨E,G,J,K,M,O,P,T,U,W⟩:=qx_ y.out)|((with_reducible refine qe_ (f:=36) rfl ?_);refine qp_ (some 8) rfl rfl Try.func36 (by kernel_rfl) rfl #[Y d a.length g,I L c] rfl Z24 ?_;(with_reducible refine (laws_szKidS.calls _ _ a c b _ ?side1 ?side2 x.out).mono ?_);(case side1=>exact pC_ (Kd.C_below u.out HB.out));(case side2=>exact v.out);rintro e w' ⟨rfl,⟨nd,rfl⟩⟩;refine ⟨_,rfl,?_⟩))
 have H:=q.out
 clear q
 by_cases c7:b < 0
 ·rw [if_pos c7] at H
  have m:decide (b < 0)=true:=decide_eq_true c7;clear c7;refine rw_ m ?_;obtain rfl:=Option.some.inj H
  go_wp2
  go_ret;exact ⟨er_,pB_ HB.out⟩
 ·rw [if_neg c7] at H
  have m:decide (b < 0)=false:=decide_eq_false c7;clear c7;refine rw_ m ?_;obtain rfl:=Option.some.inj H
  go_wp2
  go_ret;exact ⟨er_,pB_ HB.out⟩
def laws_szBranch.f (h b c d e:Int) (l0_5:List (S100)) (g:Int):Option (Int):=(laws_szFair.f b c d e l0_5 g).bind fun a=>(if a < 0 then (some (-1)) else (some a))
theorem laws_szBranch.calls (m b c d g:Int) (j:Option Addr) (k:Nat) (l0_5:List (S100)) (i r:Int) (w:World) (o:Kd.C k100 w j l0_5.length l0_5) (p:l0_5.length≤k) (h:laws_szBranch.f m b c d g l0_5 i=some r) :
  Calls Try.prog 37 #[.agg #[I L m,I L b,I L c,I L d,I L g,Y j l0_5.length k],I L i] w fun e w'=>e=.returned (I L r)∧Below w.heap.size w w':=by
 have hu72:=Try.underlying72
 have hu26:=Try.underlying26
 have v:=D o
 have x:=D p
 clear o p
 have HB:=D (Below.refl w.heap.size w)
 have H:((laws_szFair.f b c d g l0_5 i).bind fun a=>(if a < 0 then (some (-1)) else (some a)))=some r:=h
 clear h
 obtain ⟨a,q,H⟩:=bs_.mp H
 (try dsimp only at H)
 have y:=D q
 clear q
 have s:=D H
 clear H
 go_enter Try.func37,Try.ntmps37
 go_upto_if 10 with (first|((with_reducible refine qh_ (N:=2) rfl ?_);refine bx_ (N:=2) (cs:=#[I L m,I L b,I L c,I L d,I L g,Y j l0_5.length k]) (t:=72) ?_;intro u hg z hbox hb;have n_:=an_ (qd_ (pB_ HB.out) hb)<|an_ (hbox)<|an_ (bg_ hg (pB_ HB.out):w.heap.size≤u)<|D (bg_ hg (pB_ HB.out):w.heap.size≤u);clear HB;obtain ⟨HB,l,A,B⟩:=n_;clear hb hbox hg;obtain ⟨E,G,J,K,M,O,P,T,U,W,X,Z⟩:=qm_ l.out)|((with_reducible refine qe_ (f:=12) rfl ?_);refine qp_ (some 8) rfl rfl Try.func12 (by kernel_rfl) rfl #[.agg #[I L b,I L c,I L d,I L g,Y j l0_5.length k],I L i] rfl Z24 ?_;(with_reducible refine (laws_szFair.calls b c d g _ _ l0_5 i a _ ?side1 ?side2 y.out).mono ?_);(case side1=>exact pC_ (Kd.C_below v.out HB.out));(case side2=>exact x.out);rintro e w7 ⟨rfl,hb⟩;refine ⟨_,rfl,?_⟩;have n_:=an_ (qa_ (pk_ l.out) hb)<|D (qd_ (pB_ HB.out) hb);clear l HB;obtain ⟨l,HB⟩:=n_;(try clear hb)))
 have H:=s.out
 clear s
 by_cases c8:a < 0
 ·rw [if_pos c8] at H
  have n:decide (a < 0)=true:=decide_eq_true c8;clear c8;refine rw_ n ?_;obtain rfl:=Option.some.inj H
  go_wp2
  go_ret;exact ⟨er_,pB_ HB.out⟩
 ·rw [if_neg c8] at H
  have n:decide (a < 0)=false:=decide_eq_false c8;clear c8;refine rw_ n ?_;obtain rfl:=Option.some.inj H
  go_wp2
  go_ret;exact ⟨er_,pB_ HB.out⟩
def laws_szBranchS.l0:Nat→List (S72)→Int→Int→Option (Int)
 | 0,_,_,_=>none
 | k+1,b,c,a=>if a < (b.length:Int) then (if 0≤a then ((laws_szBranch.f ((q8_ b a).f0) ((q8_ b a).f1.f0) ((q8_ b a).f1.f1.f0) ((q8_ b a).f1.f1.f1) ((q8_ b a).f1.f1.f2) ((q8_ b a).f1.f2) c).bind fun d=>(if d < 0 then (some (-1)) else (laws_szBranchS.l0 k b d (wrap64 (a+1))))) else (none)) else (some c)
def laws_szBranchS.f (k:Nat) (l0:List (S72)) (a:Int):Option (Int):=if (wrap64 (a - (l0.length:Int))) < 0 then (some (-1)) else (laws_szBranchS.l0 k l0 (wrap64 (a - (l0.length:Int))) 0)
theorem laws_szBranchS.calls (k:Nat) (l:Option Addr) (m:Nat) (l0:List (S72)) (b r:Int) (w:World) (n:Kd.C k72 w l l0.length l0) (o:l0.length≤m) (h:laws_szBranchS.f k l0 b=some r) :
  Calls Try.prog 13 #[Y l l0.length m,I L b] w fun e w'=>e=.returned (I L r)∧Below w.heap.size w w':=by
 have hu72:=Try.underlying72
 have J:=D n
 have ab:=D o
 clear n o
 have HB:=D (Below.refl w.heap.size w)
 have H:(if (wrap64 (b - (l0.length:Int))) < 0 then (some (-1)) else (laws_szBranchS.l0 k l0 (wrap64 (b - (l0.length:Int))) 0))=some r:=h
 clear h
 by_cases c3:(wrap64 (b - (l0.length:Int))) < 0
 ·rw [if_pos c3] at H
  have p:decide ((wrap64 (b - (l0.length:Int))) < 0)=true:=decide_eq_true c3;clear c3;obtain rfl:=Option.some.inj H;go_enter Try.func13,Try.ntmps13
  go_wp2
  go_ret;exact ⟨er_,pB_ HB.out⟩
 ·rw [if_neg c3] at H
  have p:decide ((wrap64 (b - (l0.length:Int))) < 0)=false:=decide_eq_false c3;clear c3;have H':=D H;clear H;go_enter Try.func13,Try.ntmps13
  go_wp2
  go_loopg [1,5] k (fun kq K M w'=>∃ (c:Int) (a:Int),K=I L c∧M=I L a∧Aside0 (laws_szBranchS.l0 kq l0 c a=some r)∧Aside0 (kq≤k)∧Aside0 (Below w.heap.size w w'))
  case atStart=>exact ⟨(wrap64 (b - (l0.length:Int))),(0),Z92,Z92,H',⟨Nat.le_refl _⟩,⟨pB_ HB.out⟩⟩
  case round =>
   clear H'
   (try clear c1);(try clear p2);(try clear c3);(try clear p)
   obtain ⟨c,a,rfl,rfl,HA,q,HB⟩:=hrel
   cases gk with
   | zero=>exact absurd HA.out (by simp [laws_szBranchS.l0])
   | succ O =>
    have H:=HA.out;clear HA;simp only [laws_szBranchS.l0] at H
    by_cases c4:a < (l0.length:Int)
    ·rw [if_pos c4] at H
     have P:decide (a < (l0.length:Int))=true:=decide_eq_true c4;clear c4
     by_cases c5:0≤a
     ·rw [if_pos c5] at H
      have ae:decide (0≤a)=true:=decide_eq_true c5;clear c5;obtain ⟨d,s,H⟩:=bs_.mp H;(try dsimp only at H);have T:=D s;clear s;have t:=D H;clear H;have g:0≤(a:Int):=od_ Z91;have i:a < (l0.length:Int):=od_ Z91;obtain ⟨af,U,W,X,u,v,x,y,z,A,B,E⟩:=at_T72 J.out a g i;cases X;replace u:=rc_ HB.out u;replace v:=rc_ HB.out v;replace x:=rc_ HB.out x;replace y:=rc_ HB.out y;replace z:=rc_ HB.out z;replace A:=rc_ HB.out A;have Z:=D E;have aa:=D B;clear E B;replace g:=eq_true g;replace i:=eq_true i
      go_upto_if 25 with (first|((with_reducible refine qe_ (f:=37) rfl ?_);refine qp_ (some 23) rfl rfl Try.func37 (by kernel_rfl) rfl #[.agg #[I L ((q8_ l0 a).f0),I L ((q8_ l0 a).f1.f0),I L ((q8_ l0 a).f1.f1.f0),I L ((q8_ l0 a).f1.f1.f1),I L ((q8_ l0 a).f1.f1.f2),Y U ((q8_ l0 a).f1.f2).length W],I L c] rfl Z24 ?_;(with_reducible refine (laws_szBranch.calls ((q8_ l0 a).f0) ((q8_ l0 a).f1.f0) ((q8_ l0 a).f1.f1.f0) ((q8_ l0 a).f1.f1.f1) ((q8_ l0 a).f1.f1.f2) _ _ ((q8_ l0 a).f1.f2) c d _ ?side1 ?side2 T.out).mono ?_);(case side1=>exact pC_ (Kd.C_below Z.out HB.out));(case side2=>exact aa.out);rintro e w8 ⟨rfl,hb⟩;refine ⟨_,rfl,?_⟩;have G:=D (qd_ (pB_ HB.out) hb);clear HB;have HB:=G;clear G;(try clear hb)))
      have H:=t.out;clear t
      by_cases c9:d < 0
      ·rw [if_pos c9] at H
       have j:decide (d < 0)=true:=decide_eq_true c9;clear c9;refine rw_ j ?_;obtain rfl:=Option.some.inj H
       go_wp2
       go_ret;exact ⟨er_,pB_ HB.out⟩
      ·rw [if_neg c9] at H
       have j:decide (d < 0)=false:=decide_eq_false c9;clear c9;refine rw_ j ?_;have H':=D H;clear H
       go_wp2
       go_roundg O
       case measure=>have:=q.out;omega
       case rel=>exact ⟨(d),(wrap64 (a+1)),Z92,Z92,H',⟨by have:=q.out;omega⟩,⟨pB_ HB.out⟩⟩
     ·rw [if_neg c5] at H
      exact absurd H (by simp)
    ·rw [if_neg c4] at H
     have P:decide (a < (l0.length:Int))=false:=decide_eq_false c4;clear c4;obtain rfl:=Option.some.inj H
     go_wp2
     go_ret;exact ⟨er_,pB_ HB.out⟩
def laws_szTree.f (k:Nat) (c d e g:Int) (h:List (S100)) (l0_5:List (S72)) (i:Int):Option (Int):=(laws_szFair.f c d e g h i).bind fun a=>(if a < 0 then (some (-1)) else ((laws_szBranchS.f k l0_5 a).bind fun b=>(if b < 0 then (some (-1)) else (some b))))
theorem laws_szTree.calls (k:Nat) (g i j l:Int) (o:Option Addr) (p:Nat) (a:List (S100)) (q:Option Addr) (s:Nat) (l0_5:List (S72)) (n r:Int) (w:World) (x:Kd.C k100 w o a.length a) (y:a.length≤p) (z:Kd.C k72 w q l0_5.length l0_5) (A:l0_5.length≤s) (h:laws_szTree.f k g i j l a l0_5 n=some r) :
  Calls Try.prog 4 #[.agg #[I L g,I L i,I L j,I L l,Y o a.length p,Y q l0_5.length s],I L n] w fun e w'=>e=.returned (I L r)∧Below w.heap.size w w':=by
 have hu29:=Try.underlying29
 have hu26:=Try.underlying26
 have M:=D x
 have O:=D y
 clear x y
 have P:=D z
 have T:=D A
 clear z A
 have HB:=D (Below.refl w.heap.size w)
 have H:((laws_szFair.f g i j l a n).bind fun b=>(if b < 0 then (some (-1)) else ((laws_szBranchS.f k l0_5 b).bind fun d=>(if d < 0 then (some (-1)) else (some d)))))=some r:=h
 clear h
 obtain ⟨b,B,H⟩:=bs_.mp H
 (try dsimp only at H)
 have U:=D B
 clear B
 have E:=D H
 clear H
 go_enter Try.func4,Try.ntmps4
 go_upto_if 10 with (first|((with_reducible refine qh_ (N:=2) rfl ?_);refine bx_ (N:=2) (cs:=#[I L g,I L i,I L j,I L l,Y o a.length p,Y q l0_5.length s]) (t:=29) ?_;intro G hg X hbox hb;have n_:=an_ (qd_ (pB_ HB.out) hb)<|an_ (hbox)<|an_ (bg_ hg (pB_ HB.out):w.heap.size≤G)<|D (bg_ hg (pB_ HB.out):w.heap.size≤G);clear HB;obtain ⟨HB,c,Z,aa⟩:=n_;clear hb hbox hg;obtain ⟨ab,ac,ad,ae,af,ag,ah,ai,aj,ak,al,am⟩:=qm_ c.out)|((with_reducible refine qe_ (f:=12) rfl ?_);refine qp_ (some 8) rfl rfl Try.func12 (by kernel_rfl) rfl #[.agg #[I L g,I L i,I L j,I L l,Y o a.length p],I L n] rfl Z24 ?_;(with_reducible refine (laws_szFair.calls g i j l _ _ a n b _ ?side1 ?side2 U.out).mono ?_);(case side1=>exact pC_ (Kd.C_below M.out HB.out));(case side2=>exact O.out);rintro e w7 ⟨rfl,hb⟩;refine ⟨_,rfl,?_⟩;have n_:=an_ (qa_ (pk_ c.out) hb)<|D (qd_ (pB_ HB.out) hb);clear c HB;obtain ⟨c,HB⟩:=n_;(try clear hb)))
 have H:=E.out
 clear E
 by_cases c8:b < 0
 ·rw [if_pos c8] at H
  have u:decide (b < 0)=true:=decide_eq_true c8;clear c8;refine rw_ u ?_;obtain rfl:=Option.some.inj H
  go_wp2
  go_ret;exact ⟨er_,pB_ HB.out⟩
 ·rw [if_neg c8] at H
  have u:decide (b < 0)=false:=decide_eq_false c8;clear c8;refine rw_ u ?_;obtain ⟨d,J,H⟩:=bs_.mp H;(try dsimp only at H);have W:=D J;clear J;have K:=D H;clear H;obtain ⟨ao,ap,aq,ar,au,av,aw,ax,ay,az,aA,aB⟩:=qm_ c.out
  go_upto_if 16 with (first|((with_reducible refine qe_ (f:=13) rfl ?_);refine qp_ (some 14) rfl rfl Try.func13 (by kernel_rfl) rfl #[Y q l0_5.length s,I L b] rfl Z24 ?_;(with_reducible refine (laws_szBranchS.calls k _ _ l0_5 b d _ ?side1 ?side2 W.out).mono ?_);(case side1=>exact pC_ (Kd.C_below P.out HB.out));(case side2=>exact T.out);rintro e aC ⟨rfl,hb⟩;refine ⟨_,rfl,?_⟩;have n_:=an_ (qa_ (pk_ c.out) hb)<|D (qd_ (pB_ HB.out) hb);clear c HB;obtain ⟨c,HB⟩:=n_;(try clear hb)))
  have H:=K.out;clear K
  by_cases m:d < 0
  ·rw [if_pos m] at H
   have v:decide (d < 0)=true:=decide_eq_true m;clear m;refine rw_ v ?_;obtain rfl:=Option.some.inj H
   go_wp2
   go_ret;exact ⟨er_,pB_ HB.out⟩
  ·rw [if_neg m] at H
   have v:decide (d < 0)=false:=decide_eq_false m;clear m;refine rw_ v ?_;obtain rfl:=Option.some.inj H
   go_wp2
   go_ret;exact ⟨er_,pB_ HB.out⟩
def spec_l19Busy.l0:Nat→List Int→Int→Int→Int→Int→Int→List (S75)→Option (List Int)
 | 0,_,_,_,_,_,_,_=>none
 | k+1,c,a,d,e,g,h,b=>if a < (b.length:Int) then (if 0≤a then (if (qb_ b a).f2=true then (if c.length < 17592186044416 then (spec_l19Busy.l0 k (c ++ [(qb_ b a).f0]) (wrap64 (a+1)) d e g h b) else (none)) else (spec_l19Busy.l0 k c (wrap64 (a+1)) d e g h b)) else (none)) else (some c)
def spec_l19Busy.f (k:Nat) (a b c d:Int) (e:List (S75)):Option (List Int):=spec_l19Busy.l0 k (([]:List Int)) 0 a b c d e
theorem spec_l19Busy.calls (k:Nat) (g i j l:Int) (s:Option Addr) (u:Nat) (c:List (S75)) (r:List Int) (w:World) (M:Kd.C k75 w s c.length c) (O:c.length≤u) (h:spec_l19Busy.f k g i j l c=some r) :
  Calls Try.prog 19 #[.agg #[I L g,I L i,I L j,I L l,Y s c.length u]] w fun e w'=>∃ P:Value,e=.returned (P)∧Kd.R (Kd.int .i64) 3 w' w.heap.size (fun _=>True) P r∧Below w.heap.size w w':=by
 have hu34:=Try.underlying34
 have T:=D M
 have az:=D O
 clear M O
 have HB:=D (Below.refl w.heap.size w)
 have H:(spec_l19Busy.l0 k (([]:List Int)) 0 g i j l c)=some r:=h
 clear h
 obtain ⟨U,n⟩:∃ y_:List Int,y_=(([]:List Int)):=⟨_,rfl⟩
 replace H:(spec_l19Busy.l0 k U 0 g i j l c)=some r:=by first|(rw [n];with_reducible exact H)|(have H2_:=(Option.bind_some _ _).symm.trans H;rw [n];with_reducible exact H2_)|(have H2_:=(Option.bind_some _ _).symm.trans H;with_reducible exact H2_)|with_reducible exact H|(rw [n];exact H)|exact H
 have W:=D n
 clear n
 have H':=D H
 clear H
 go_enter Try.func19,Try.ntmps19
 go_wp2_with (first|((with_reducible refine qh_ (N:=1) rfl ?_);refine bx_ (N:=1) (cs:=#[I L g,I L i,I L j,I L l,Y s c.length u]) (t:=34) ?_;intro y hg w2 hbox hb;have n_:=an_ (qd_ (pB_ HB.out) hb)<|an_ (hbox)<|an_ (bg_ hg (pB_ HB.out):w.heap.size≤y)<|D (bg_ hg (pB_ HB.out):w.heap.size≤y);clear HB;obtain ⟨HB,d,aC,aD⟩:=n_;clear hb hbox hg)|((with_reducible refine qh_ (N:=5) rfl ?_);refine Kd.R_lit (Kd.int .i64) _ 3 ?hg (N:=5) ?hd (xs:=([]:List Int)) (inner:=[]) (ok:=fun _=>True) (okp:=fun _=>True) ?hr ?hp (fun _ hk=>hk) trivial (Below.refl _ _) (Nat.le_refl _) (by simp) ?_;(case hd=>rfl);(case hg=>rfl);(case hr=>first|(go_simp;done)|(go_simp;rfl));(case hp=>exact (Reps.none _ _));intro aE w3 o hb hg_ hnew_;clear hg_ hnew_;(first|rw [← W.out] at o|(simp only [Int.reduceToNat] at o;rw [← W.out] at o));have n_:=an_ (Kd.R_lower o (qk_ (pB_ HB.out)))<|an_ (qa_ (pk_ d.out) hb)<|D (qd_ (pB_ HB.out) hb);clear d HB;obtain ⟨am,d,HB⟩:=n_;clear hb o))
 go_loopg [3,4] k (fun kq v3 v4 w'=>∃ (m:List Int) (a:Int),v4=I L a∧Aside0 (spec_l19Busy.l0 kq m a g i j l c=some r)∧Aside0 (kq≤k)∧Aside0 (Kd.R (Kd.int .i64) 3 w' w.heap.size (fun _=>True) v3 m)∧Aside0 (w'.heap[y]?=some (.cells #[I L g,I L i,I L j,I L l,(Y s c.length u)] 34 (0,0)))∧Aside0 (Below w.heap.size w w'))
 case atStart=>exact ⟨(U),(0),Z92,H',⟨Nat.le_refl _⟩,⟨pR_ am.out⟩,⟨pk_ d.out⟩,⟨pB_ HB.out⟩⟩
 case round =>
  clear H'
  (try clear c1);(try clear p2)
  obtain ⟨m,a,rfl,HA,v,HO_3,d,HB⟩:=hrel
  cases gk with
  | zero=>exact absurd HA.out (by simp [spec_l19Busy.l0])
  | succ p =>
   have H:=HA.out;clear HA;simp only [spec_l19Busy.l0] at H
   by_cases c5:a < (c.length:Int)
   ·rw [if_pos c5] at H
    have ap:decide (a < (c.length:Int))=true:=decide_eq_true c5;clear c5
    by_cases c6:0≤a
    ·rw [if_pos c6] at H
     have aJ:decide (0≤a)=true:=decide_eq_true c6;clear c6;have X:=D H;clear H;obtain ⟨aK,aM,aN,aQ,aR,aT,aU,aV,aW,aX⟩:=qx_ d.out;have z:0≤(a:Int):=od_ Z91;have A:a < (c.length:Int):=od_ Z91;obtain ⟨aq,ar,Z,aa,ab,ac,ad,ae⟩:=qac_ T.out a z A;cases ar;replace Z:=rc_ HB.out Z;replace aa:=rc_ HB.out aa;replace ab:=rc_ HB.out ab;replace ac:=rc_ HB.out ac;replace ad:=rc_ HB.out ad;replace ae:=rc_ HB.out ae;replace z:=eq_true z;replace A:=eq_true A
     go_upto_if 18 with (fail)
     have H:=X.out;clear X;obtain ⟨af,B⟩:∃ b_:Bool,b_=((qb_ c a).f2):=⟨_,rfl⟩
     replace H:(if af=true then (if m.length < 17592186044416 then (spec_l19Busy.l0 p (m ++ [(qb_ c a).f0]) (wrap64 (a+1)) g i j l c) else (none)) else (spec_l19Busy.l0 p m (wrap64 (a+1)) g i j l c))=some r:=by rw [← B] at H;exact H
     have E:=D B;clear B;(try rw [← E.out])
     by_cases c10:af=true
     ·subst c10
      rw [if_pos rfl] at H
      by_cases x:m.length < 17592186044416
      ·rw [if_pos x] at H
       have au:=D x;clear x;obtain ⟨ag,q⟩:∃ y_:List Int,y_=(m ++ [(qb_ c a).f0]):=⟨_,rfl⟩
       replace H:(spec_l19Busy.l0 p ag (wrap64 (a+1)) g i j l c)=some r:=by first|(rw [q];with_reducible exact H)|(have H2_:=(Option.bind_some _ _).symm.trans H;rw [q];with_reducible exact H2_)|(have H2_:=(Option.bind_some _ _).symm.trans H;with_reducible exact H2_)|with_reducible exact H|(rw [q];exact H)|exact H
       have av:=D q;clear q;have H':=D H;clear H;obtain ⟨aY,aZ,a0,a1,a2,a3,a4,a5,a6,a7⟩:=qx_ d.out;have G:0≤(a:Int):=od_ Z91;have J:a < (c.length:Int):=od_ Z91;obtain ⟨aw,ax,ah,ai,K,aj,ak,al⟩:=qac_ T.out a G J;(try rw [← E.out] at K);(try rw [← E.out] at a8);obtain rfl:aq=aw:=(by injection ax);replace ah:=rc_ HB.out ah;replace ai:=rc_ HB.out ai;replace K:=rc_ HB.out K;replace aj:=rc_ HB.out aj;replace ak:=rc_ HB.out ak;replace al:=rc_ HB.out al;replace G:=eq_true G;replace J:=eq_true J
       go_wp2_with (first|((with_reducible refine gate_builtin (b:=.append) (xs:=#[.tmp 19,.tmp 26]) rfl ?_);at_builtin;refine Kd.R_append (Kd.int .i64) (w0:=w) w.heap.size rfl (.tmp 19) (.tmp 26) 55 3 (I L 0) 8 rfl Try.underlying55 info3 rfl (by decide) (by omega) u3 m ((qb_ c a).f0) [I L ((qb_ c a).f0)] (fun _=>True) (fun _=>False) rfl rfl ?aP (fun _ hk=>hk.elim) ?aF ?aO ?aB ?aS ?aL ?_;(case aP=>exact rfl);(case aB=>exact (pB_ HB.out));(case aF=>exact (fun _ _=>trivial));(case aO=>exact (pR_ HO_3.out));(case aS=>exact (qk_ (pB_ HB.out)));(case aL=>have:=au.out;omega);intro a9 ba ho hb hg hat;rw [← av.out] at ho;have n_:=an_ (qw_ (pk_ d.out) hg (Kd.R_ne HO_3.out d.out (by decide)))<|an_ (hb)<|D (ho);clear d HB HO_3;obtain ⟨d,HB,ay⟩:=n_;clear ho hb hg hat))
       go_roundg p
       case measure=>have:=v.out;omega
       case rel=>exact ⟨(ag),(wrap64 (a+1)),Z92,H',⟨by have:=v.out;omega⟩,⟨pR_ ay.out⟩,⟨pk_ d.out⟩,⟨pB_ HB.out⟩⟩
      ·rw [if_neg x] at H
       exact absurd H (by simp)
     ·replace c10:=Bool.eq_false_iff.mpr c10
      subst c10;rw [if_neg (show ¬ (false=true) by decide)] at H;have H':=D H;clear H
      go_wp2
      go_roundg p
      case measure=>have:=v.out;omega
      case rel=>exact ⟨(m),(wrap64 (a+1)),Z92,H',⟨by have:=v.out;omega⟩,⟨pR_ HO_3.out⟩,⟨pk_ d.out⟩,⟨pB_ HB.out⟩⟩
    ·rw [if_neg c6] at H
     exact absurd H (by simp)
   ·rw [if_neg c5] at H
    have ap:decide (a < (c.length:Int))=false:=decide_eq_false c5;clear c5;obtain rfl:=Option.some.inj H;obtain ⟨bb,bc,bd,be,bf,bg,bh,bi,bj,bk⟩:=qx_ d.out
    go_wp2
    go_ret;exact ⟨_,er_,by (with_reducible repeat (first|apply Kd.R_alloc|apply Kd.R_drewN|apply Kd.R_drew));exact HO_3.out,pB_ HB.out⟩
def spec_VecTop.f (a b c:Int):Option (Int):=some (mx (mx a b) c)
theorem spec_VecTop.calls (b c a r:Int) (w:World) (h:spec_VecTop.f b c a=some r) :
  Calls Try.prog 44 #[.agg #[I L b,I L c,I L a]] w fun e w'=>e=.returned (I L r)∧Below w.heap.size w w':=by
 have hu31:=Try.underlying31
 have HB:=D (Below.refl w.heap.size w)
 have H:(some (mx (mx b c) a))=some r:=h
 clear h
 obtain ⟨d,hji2⟩:∃ j_:Int,(mx b c)=j_:=⟨_,rfl⟩
 replace H:(some (mx (d) a))=some r:=by first | (rw [hji2] at H;exact H) | (simp only [hji2] at H ⊢;exact H)
 have hji2_:(if b < c then c else b)=d:=hji2
 obtain ⟨g,hji3⟩:∃ j_:Int,(mx (d) a)=j_:=⟨_,rfl⟩
 replace H:(some g)=some r:=by first | (rw [hji3] at H;exact H) | (simp only [hji3] at H ⊢;exact H)
 have hji3_:(if (d) < a then a else (d))=g:=hji3
 obtain rfl:=Option.some.inj H
 go_enter Try.func44,Try.ntmps44
 go_wp2_with (first|((with_reducible refine qh_ (N:=1) rfl ?_);refine bx_ (N:=1) (cs:=#[I L b,I L c,I L a]) (t:=31) ?_;intro i hg k hbox hb;have n_:=an_ (qd_ (pB_ HB.out) hb)<|an_ (hbox)<|an_ (bg_ hg (pB_ HB.out):w.heap.size≤i)<|D (bg_ hg (pB_ HB.out):w.heap.size≤i);clear HB;obtain ⟨HB,j,l,m⟩:=n_;clear hb hbox hg;obtain ⟨n,o,p,q,s,u⟩:=q0_ j.out))
 go_ret
 exact ⟨by first|rfl|(simp [qaa_,q9_] <;> rfl)|(simp only [← hji2,← hji3];first|rfl|(simp [qaa_,q9_] <;> rfl))|(simp [*,qaa_,q9_] <;> rfl),pB_ HB.out⟩
def spec_l13All.f (c d e a b:Int):Option (Bool):=if c ≥ a then (if c≤b then (if d ≥ a then (if d≤b then (if e ≥ a then (some (decide (e≤b))) else (some false)) else (some false)) else (some false)) else (some false)) else (some false)
theorem spec_l13All.calls (b c g d i:Int) (r:Bool) (w:World) (h:spec_l13All.f b c g d i=some r) :
  Calls Try.prog 39 #[.agg #[I L b,I L c,I L g],I L d,I L i] w fun e w'=>e=.returned (.bool r)∧Below w.heap.size w w':=by
 have hu31:=Try.underlying31
 have HB:=D (Below.refl w.heap.size w)
 have H:(if b ≥ d then (if b≤i then (if c ≥ d then (if c≤i then (if g ≥ d then (some (decide (g≤i))) else (some false)) else (some false)) else (some false)) else (some false)) else (some false))=some r:=h
 clear h
 by_cases c4:b ≥ d
 ·rw [if_pos c4] at H
  have m:decide (d≤b)=true:=decide_eq_true c4;clear c4
  by_cases c5:b≤i
  ·rw [if_pos c5] at H
   have n:decide (b≤i)=true:=decide_eq_true c5;clear c5
   by_cases c6:c ≥ d
   ·rw [if_pos c6] at H
    have o:decide (d≤c)=true:=decide_eq_true c6;clear c6
    by_cases c7:c≤i
    ·rw [if_pos c7] at H
     have p:decide (c≤i)=true:=decide_eq_true c7;clear c7
     by_cases c8:g ≥ d
     ·rw [if_pos c8] at H
      have q:decide (d≤g)=true:=decide_eq_true c8;clear c8;obtain rfl:=Option.some.inj H;go_enter Try.func39,Try.ntmps39
      go_wp2_with (first|((with_reducible refine qh_ (N:=3) rfl ?_);refine bx_ (N:=3) (cs:=#[I L b,I L c,I L g]) (t:=31) ?_;intro a hg s hbox hb;have n_:=an_ (qd_ (pB_ HB.out) hb)<|an_ (hbox)<|an_ (bg_ hg (pB_ HB.out):w.heap.size≤a)<|D (bg_ hg (pB_ HB.out):w.heap.size≤a);clear HB;obtain ⟨HB,j,k,l⟩:=n_;clear hb hbox hg;obtain ⟨u,v,x,y,z,A⟩:=q0_ j.out))
      go_ret;exact ⟨er_,pB_ HB.out⟩
     ·rw [if_neg c8] at H
      have q:decide (d≤g)=false:=decide_eq_false c8;clear c8;obtain rfl:=Option.some.inj H;go_enter Try.func39,Try.ntmps39
      go_wp2_with (first|((with_reducible refine qh_ (N:=3) rfl ?_);refine bx_ (N:=3) (cs:=#[I L b,I L c,I L g]) (t:=31) ?_;intro a hg B hbox hb;have n_:=an_ (qd_ (pB_ HB.out) hb)<|an_ (hbox)<|an_ (bg_ hg (pB_ HB.out):w.heap.size≤a)<|D (bg_ hg (pB_ HB.out):w.heap.size≤a);clear HB;obtain ⟨HB,j,k,l⟩:=n_;clear hb hbox hg;obtain ⟨E,G,J,K,M,O⟩:=q0_ j.out))
      go_ret;exact ⟨er_,pB_ HB.out⟩
    ·rw [if_neg c7] at H
     have p:decide (c≤i)=false:=decide_eq_false c7;clear c7;obtain rfl:=Option.some.inj H;go_enter Try.func39,Try.ntmps39
     go_wp2_with (first|((with_reducible refine qh_ (N:=3) rfl ?_);refine bx_ (N:=3) (cs:=#[I L b,I L c,I L g]) (t:=31) ?_;intro a hg P hbox hb;have n_:=an_ (qd_ (pB_ HB.out) hb)<|an_ (hbox)<|an_ (bg_ hg (pB_ HB.out):w.heap.size≤a)<|D (bg_ hg (pB_ HB.out):w.heap.size≤a);clear HB;obtain ⟨HB,j,k,l⟩:=n_;clear hb hbox hg;obtain ⟨T,U,W,X,Z,aa⟩:=q0_ j.out))
     go_ret;exact ⟨er_,pB_ HB.out⟩
   ·rw [if_neg c6] at H
    have o:decide (d≤c)=false:=decide_eq_false c6;clear c6;obtain rfl:=Option.some.inj H;go_enter Try.func39,Try.ntmps39
    go_wp2_with (first|((with_reducible refine qh_ (N:=3) rfl ?_);refine bx_ (N:=3) (cs:=#[I L b,I L c,I L g]) (t:=31) ?_;intro a hg ab hbox hb;have n_:=an_ (qd_ (pB_ HB.out) hb)<|an_ (hbox)<|an_ (bg_ hg (pB_ HB.out):w.heap.size≤a)<|D (bg_ hg (pB_ HB.out):w.heap.size≤a);clear HB;obtain ⟨HB,j,k,l⟩:=n_;clear hb hbox hg;obtain ⟨ac,ad,ae,af,ag,ah⟩:=q0_ j.out))
    go_ret;exact ⟨er_,pB_ HB.out⟩
  ·rw [if_neg c5] at H
   have n:decide (b≤i)=false:=decide_eq_false c5;clear c5;obtain rfl:=Option.some.inj H;go_enter Try.func39,Try.ntmps39
   go_wp2_with (first|((with_reducible refine qh_ (N:=3) rfl ?_);refine bx_ (N:=3) (cs:=#[I L b,I L c,I L g]) (t:=31) ?_;intro a hg ai hbox hb;have n_:=an_ (qd_ (pB_ HB.out) hb)<|an_ (hbox)<|an_ (bg_ hg (pB_ HB.out):w.heap.size≤a)<|D (bg_ hg (pB_ HB.out):w.heap.size≤a);clear HB;obtain ⟨HB,j,k,l⟩:=n_;clear hb hbox hg;obtain ⟨aj,ak,al,am,an,ao⟩:=q0_ j.out))
   go_ret;exact ⟨er_,pB_ HB.out⟩
 ·rw [if_neg c4] at H
  have m:decide (d≤b)=false:=decide_eq_false c4;clear c4;obtain rfl:=Option.some.inj H;go_enter Try.func39,Try.ntmps39
  go_wp2_with (first|((with_reducible refine qh_ (N:=3) rfl ?_);refine bx_ (N:=3) (cs:=#[I L b,I L c,I L g]) (t:=31) ?_;intro a hg ap hbox hb;have n_:=an_ (qd_ (pB_ HB.out) hb)<|an_ (hbox)<|an_ (bg_ hg (pB_ HB.out):w.heap.size≤a)<|D (bg_ hg (pB_ HB.out):w.heap.size≤a);clear HB;obtain ⟨HB,j,k,l⟩:=n_;clear hb hbox hg;obtain ⟨aq,ar,au,av,aw,ax⟩:=q0_ j.out))
  go_ret;exact ⟨er_,pB_ HB.out⟩
def spec_TagOk.f (a b c:Int):Option (Bool):=(spec_l13All.f a b c 0 1000000000000).bind fun d=>(some d)
theorem spec_TagOk.calls (a b c:Int) (r:Bool) (w:World) (h:spec_TagOk.f a b c=some r) :
  Calls Try.prog 65 #[.agg #[I L a,I L b,I L c]] w fun e w'=>e=.returned (.bool r)∧Below w.heap.size w w':=by
 have hu31:=Try.underlying31
 have HB:=D (Below.refl w.heap.size w)
 have H:((spec_l13All.f a b c 0 1000000000000).bind fun g=>(some g))=some r:=h
 clear h
 obtain ⟨g,i,H⟩:=bs_.mp H
 (try dsimp only at H)
 have k:=D i
 clear i
 obtain rfl:=Option.some.inj H
 go_enter Try.func65,Try.ntmps65
 go_wp2_with (first|((with_reducible refine qh_ (N:=1) rfl ?_);refine bx_ (N:=1) (cs:=#[I L a,I L b,I L c]) (t:=31) ?_;intro j hg l hbox hb;have n_:=an_ (qd_ (pB_ HB.out) hb)<|an_ (hbox)<|an_ (bg_ hg (pB_ HB.out):w.heap.size≤j)<|D (bg_ hg (pB_ HB.out):w.heap.size≤j);clear HB;obtain ⟨HB,d,m,n⟩:=n_;clear hb hbox hg;obtain ⟨o,p,q,s,u,v⟩:=q0_ d.out)|((with_reducible refine qe_ (f:=39) rfl ?_);refine qp_ (some 4) rfl rfl Try.func39 (by kernel_rfl) rfl #[.agg #[I L a,I L b,I L c],I L 0,I L 1000000000000] rfl Z24 ?_;(with_reducible refine (spec_l13All.calls a b c 0 1000000000000 g _ k.out).mono ?_);rintro e x ⟨rfl,hb⟩;refine ⟨_,rfl,?_⟩;have n_:=an_ (qa_ (pk_ d.out) hb)<|D (qd_ (pB_ HB.out) hb);clear d HB;obtain ⟨d,HB⟩:=n_;(try clear hb)))
 go_ret
 exact ⟨er_,pB_ HB.out⟩
def spec_l13Delta.f (a:Int):Option (Bool):=if a ≥ 0 then (some (decide (a≤10000000))) else (some false)
theorem spec_l13Delta.calls (a:Int) (r:Bool) (w:World) (h:spec_l13Delta.f a=some r) :
  Calls Try.prog 68 #[I L a] w fun e w'=>e=.returned (.bool r)∧Drawn0 w w':=by
 have H:(if a ≥ 0 then (some (decide (a≤10000000))) else (some false))=some r:=h
 clear h
 by_cases c2:a ≥ 0
 ·rw [if_pos c2] at H
  have b:decide (0≤a)=true:=decide_eq_true c2;clear c2;obtain rfl:=Option.some.inj H;go_enter Try.func68,Try.ntmps68
  go_wp2
  go_ret;exact ⟨by first | rfl | (simp;done) | (simp [*];done),by repeat (first | exact Drawn0.refl _ | apply Drawn0.step)⟩
 ·rw [if_neg c2] at H
  have b:decide (0≤a)=false:=decide_eq_false c2;clear c2;obtain rfl:=Option.some.inj H;go_enter Try.func68,Try.ntmps68
  go_wp2
  go_ret;exact ⟨by first | rfl | (simp;done) | (simp [*];done),by repeat (first | exact Drawn0.refl _ | apply Drawn0.step)⟩
def spec_Narrow.f (a b c d:Int):Option (Bool):=(spec_TagOk.f a b c).bind fun e=>(if e=true then ((spec_l13Delta.f d).bind fun g=>(if g=true then ((spec_VecTop.f a b c).bind fun h=>(some (decide ((mn (mn a b) c) ≥ (wrap64 (h - d)))))) else (some false))) else (some false))
def spec_Narrow.T1:Bool×List (List Nat×List Nat):=(true,[([],[]),([0],[0]),([1,1],[1]),([2],[2]),([3,2,2],[2,3]),([2,4],[2,4]),([5,4],[5]),([6],[6]),([7,6],[6,7]),([6],[6]),([9,6],[6,9]),([6],[6]),([11,6],[6,11]),([8,10,12,6],[6,8,10,12]),([6],[6]),([14,6,6],[6,14]),([6],[6]),([15,16,6],[6,15,16]),([13,17,6],[6,13,17]),([6,18],[6,18]),([19,15,0,1,2,3,4,5,6,7,8,9,10,11,12,13,14,15,16,17,18,19],[19])])
def spec_Narrow.B1:List Nat:=[0,1,3,7,15,31,63,127,255,127,639,127,2175,8191,127,16511,127,114815,262143,524287,1048575]
theorem spec_Narrow.tab1:rtab .any (opsOf Try.f63 1)=spec_Narrow.T1:=by kernel_rfl
theorem spec_Narrow.bits1:q3_ spec_Narrow.T1.2 spec_Narrow.B1=true:=by kernel_rfl
theorem spec_Narrow.calls (c d b i:Int) (r:Bool) (w:World) (h:spec_Narrow.f c d b i=some r) :
  Calls Try.prog 63 #[.agg #[I L c,I L d,I L b],I L i] w fun e w'=>e=.returned (.bool r)∧Below w.heap.size w w':=by
 have hu31:=Try.underlying31
 have HB:=D (Below.refl w.heap.size w)
 have H:((spec_TagOk.f c d b).bind fun o=>(if o=true then ((spec_l13Delta.f i).bind fun p=>(if p=true then ((spec_VecTop.f c d b).bind fun j=>(some (decide ((mn (mn c d) b) ≥ (wrap64 (j - i)))))) else (some false))) else (some false)))=some r:=h
 clear h
 obtain ⟨o,q,H⟩:=bs_.mp H
 (try dsimp only at H)
 have k:=D q
 clear q
 by_cases c4:o=true
 ·subst c4
  rw [if_pos rfl] at H;obtain ⟨p,s,H⟩:=bs_.mp H;(try dsimp only at H);have m:=D s;clear s
  by_cases c6:p=true
  ·subst c6
   rw [if_pos rfl] at H;obtain ⟨l,hji7⟩:∃ j_:Int,(mn c d)=j_:=⟨_,rfl⟩
   replace H:((spec_VecTop.f c d b).bind fun j=>(some (decide ((mn (l) b) ≥ (wrap64 (j - i))))))=some r:=by first|(rw [hji7] at H;exact H)|(simp only [hji7] at H ⊢;exact H)
   (try rw [hji7] at k);(try rw [hji7] at m);have hji7_:(if d < c then d else c)=l:=hji7;obtain ⟨u,hji8⟩:∃ j_:Int,(mn (l) b)=j_:=⟨_,rfl⟩
   replace H:((spec_VecTop.f c d b).bind fun j=>(some (decide ((u) ≥ (wrap64 (j - i))))))=some r:=by first | (rw [hji8] at H;exact H) | (simp only [hji8] at H ⊢;exact H)
   (try rw [hji8] at k);(try rw [hji8] at m);have hji8_:(if b < (l) then b else (l))=u:=hji8;obtain ⟨j,v,H⟩:=bs_.mp H;(try dsimp only at H);have z:=D v;clear v;obtain rfl:=Option.some.inj H;go_enter Try.func63,Try.ntmps63
   try go_wp2_with (first|((with_reducible refine qh_ (N:=2) rfl ?_);(try (refine q7_ (by rfl) ?_;dsimp only));refine bx_ (N:=2) (cs:=#[I L c,I L d,I L b]) (t:=31) ?_;intro g hg A hbox hb;have n_:=an_ (qd_ (pB_ HB.out) hb)<|an_ (hbox)<|an_ (bg_ hg (pB_ HB.out):w.heap.size≤g)<|D (bg_ hg (pB_ HB.out):w.heap.size≤g);clear HB;obtain ⟨HB,a,x,y⟩:=n_;clear hb hbox hg))
   have n_:=an_ (qi_ a.out)<|D (ql_ HB.out)
   clear a HB;obtain ⟨a,HB⟩:=n_;refine q1_ (n:=21) (S:=fun w'=>w'.cell? ⟨g,0,none⟩=some (I L c)∧w'.cell? ⟨g,1,none⟩=some (I L d)∧w'.cell? ⟨g,2,none⟩=some (I L b)) (ds:=[]) (bz 21 0) (by kernel_rfl) rfl (by kernel_rfl) (be3_ a.out) (fun hHeld=>?_);refine qn_ spec_Narrow.tab1 spec_Narrow.bits1 (fun HT_ HW_=>?_);generalize A.drew=G at a HB hHeld ⊢;refine tb_ 0 rfl rfl hHeld Z90 ?_;refine oa_ 1 6 21 3 HT_ (fun K hK=>?_);refine goes_ Try.func65 (by kernel_rfl) rfl #[.agg #[I L c,I L d,I L b]] (by rfl) rfl rfl Z24 ?_;with_reducible refine (spec_TagOk.calls c d b true _ k.out).mono ?_
   rintro e J ⟨rfl,hb⟩;refine ⟨_,rfl,?_⟩
   have n_:=an_ (qa_ (pk_ a.out) hb)<|D (qd_ (pB_ HB.out) hb)
   clear a HB;obtain ⟨a,HB⟩:=n_;refine hK.out _ _ (be3_ a.out) (fun hHeld=>?_);clear hK K;refine nx_ (N:=some 6) ?_;refine pb_ 2 ?_;refine pb_ 3 ?_;refine oa_ 4 9 21 31 HT_ (fun K hK=>?_);refine goes_ Try.func68 (by kernel_rfl) rfl #[I L i] (by rfl) rfl rfl Z24 ?_;with_reducible refine (spec_l13Delta.calls i true _ m.out).mono ?_
   rintro e w' ⟨rfl,⟨nd,rfl⟩⟩;refine ⟨_,rfl,?_⟩;refine hK.out _ _ (be3_ a.out) (fun hHeld=>?_);clear hK K;refine nx_ (N:=some 9) ?_;refine pb_ 5 ?_;refine pb_ 6 ?_;refine pb_ 7 ?_;refine pb_ 9 ?_;refine pb_ 11 ?_;refine pb_ 16 ?_;refine tb_ 8 rfl rfl hHeld Z90 ?_;refine tb_ 10 rfl rfl hHeld Z90 ?_;refine tb_ 12 rfl rfl hHeld Z90 ?_;refine pb_ 13 ?_;refine tb_ 14 rfl rfl hHeld Z90 ?_;refine oa_ 15 20 21 131071 HT_ (fun K hK=>?_);refine goes_ Try.func44 (by kernel_rfl) rfl #[.agg #[I L c,I L d,I L b]] (by rfl) rfl rfl Z24 ?_;with_reducible refine (spec_VecTop.calls c d b j _ z.out).mono ?_
   rintro e M ⟨rfl,hb⟩;refine ⟨_,rfl,?_⟩
   have n_:=an_ (qa_ (pk_ a.out) hb)<|D (qd_ (pB_ HB.out) hb)
   clear a HB;obtain ⟨a,HB⟩:=n_;refine hK.out _ _ (be3_ a.out) (fun hHeld=>?_);clear hK K;refine nx_ (N:=some 20) ?_;refine pb_ 17 ?_;refine pb_ 18 ?_;refine pb_ 19 ?_;refine pb_ 20 ?_;refine done_ (qv_ HT_.out (by kernel_rfl)) ?_
   try go_wp2
   go_ret;exact ⟨by first|rfl|(simp [qaa_,q9_] <;> rfl)|(simp only [← hji7,← hji8];first|rfl|(simp [qaa_,q9_] <;> rfl))|(simp [*,qaa_,q9_] <;> rfl),pB_ HB.out⟩
  ·replace c6:=Bool.eq_false_iff.mpr c6
   subst c6;rw [if_neg (show ¬ (false=true) by decide)] at H;obtain rfl:=Option.some.inj H;go_enter Try.func63,Try.ntmps63
   try go_wp2_with (first|((with_reducible refine qh_ (N:=2) rfl ?_);(try (refine q7_ (by rfl) ?_;dsimp only));refine bx_ (N:=2) (cs:=#[I L c,I L d,I L b]) (t:=31) ?_;intro g hg B hbox hb;have n_:=an_ (qd_ (pB_ HB.out) hb)<|an_ (hbox)<|an_ (bg_ hg (pB_ HB.out):w.heap.size≤g)<|D (bg_ hg (pB_ HB.out):w.heap.size≤g);clear HB;obtain ⟨HB,a,x,y⟩:=n_;clear hb hbox hg))
   have n_:=an_ (qi_ a.out)<|D (ql_ HB.out)
   clear a HB;obtain ⟨a,HB⟩:=n_;refine q1_ (n:=21) (S:=fun w'=>w'.cell? ⟨g,0,none⟩=some (I L c)∧w'.cell? ⟨g,1,none⟩=some (I L d)∧w'.cell? ⟨g,2,none⟩=some (I L b)) (ds:=[]) (bz 21 0) (by kernel_rfl) rfl (by kernel_rfl) (be3_ a.out) (fun hHeld=>?_);refine qn_ spec_Narrow.tab1 spec_Narrow.bits1 (fun HT_ HW_=>?_);generalize B.drew=O at a HB hHeld ⊢;refine tb_ 0 rfl rfl hHeld Z90 ?_;refine oa_ 1 6 21 3 HT_ (fun K hK=>?_);refine goes_ Try.func65 (by kernel_rfl) rfl #[.agg #[I L c,I L d,I L b]] (by rfl) rfl rfl Z24 ?_;with_reducible refine (spec_TagOk.calls c d b true _ k.out).mono ?_
   rintro e P ⟨rfl,hb⟩;refine ⟨_,rfl,?_⟩
   have n_:=an_ (qa_ (pk_ a.out) hb)<|D (qd_ (pB_ HB.out) hb)
   clear a HB;obtain ⟨a,HB⟩:=n_;refine hK.out _ _ (be3_ a.out) (fun hHeld=>?_);clear hK K;refine nx_ (N:=some 6) ?_;refine pb_ 2 ?_;refine pb_ 3 ?_;refine oa_ 4 9 21 31 HT_ (fun K hK=>?_);refine goes_ Try.func68 (by kernel_rfl) rfl #[I L i] (by rfl) rfl rfl Z24 ?_;with_reducible refine (spec_l13Delta.calls i false _ m.out).mono ?_
   rintro e w' ⟨rfl,⟨nd,rfl⟩⟩;refine ⟨_,rfl,?_⟩;refine hK.out _ _ (be3_ a.out) (fun hHeld=>?_);clear hK K;refine nx_ (N:=some 9) ?_;refine pb_ 5 ?_;refine pb_ 6 ?_;refine ob_ 7 ?_;refine ob_ 8 ?_;refine ob_ 9 ?_;refine ob_ 10 ?_;refine ob_ 11 ?_;refine ob_ 12 ?_;refine ob_ 13 ?_;refine ob_ 14 ?_;refine ob_ 15 ?_;refine ob_ 16 ?_;refine ob_ 17 ?_;refine ob_ 18 ?_;refine pb_ 19 ?_;refine pb_ 20 ?_;refine done_ (qv_ HT_.out (by kernel_rfl)) ?_
   try go_wp2
   go_ret;exact ⟨er_,pB_ HB.out⟩
 ·replace c4:=Bool.eq_false_iff.mpr c4
  subst c4;rw [if_neg (show ¬ (false=true) by decide)] at H;obtain rfl:=Option.some.inj H;go_enter Try.func63,Try.ntmps63
  try go_wp2_with (first|((with_reducible refine qh_ (N:=2) rfl ?_);(try (refine q7_ (by rfl) ?_;dsimp only));refine bx_ (N:=2) (cs:=#[I L c,I L d,I L b]) (t:=31) ?_;intro g hg E hbox hb;have n_:=an_ (qd_ (pB_ HB.out) hb)<|an_ (hbox)<|an_ (bg_ hg (pB_ HB.out):w.heap.size≤g)<|D (bg_ hg (pB_ HB.out):w.heap.size≤g);clear HB;obtain ⟨HB,a,x,y⟩:=n_;clear hb hbox hg))
  have n_:=an_ (qi_ a.out)<|D (ql_ HB.out)
  clear a HB;obtain ⟨a,HB⟩:=n_;refine q1_ (n:=21) (S:=fun w'=>w'.cell? ⟨g,0,none⟩=some (I L c)∧w'.cell? ⟨g,1,none⟩=some (I L d)∧w'.cell? ⟨g,2,none⟩=some (I L b)) (ds:=[]) (bz 21 0) (by kernel_rfl) rfl (by kernel_rfl) (be3_ a.out) (fun hHeld=>?_);refine qn_ spec_Narrow.tab1 spec_Narrow.bits1 (fun HT_ HW_=>?_);generalize E.drew=T at a HB hHeld ⊢;refine tb_ 0 rfl rfl hHeld Z90 ?_;refine oa_ 1 6 21 3 HT_ (fun K hK=>?_);refine goes_ Try.func65 (by kernel_rfl) rfl #[.agg #[I L c,I L d,I L b]] (by rfl) rfl rfl Z24 ?_;with_reducible refine (spec_TagOk.calls c d b false _ k.out).mono ?_
  rintro e U ⟨rfl,hb⟩;refine ⟨_,rfl,?_⟩
  have n_:=an_ (qa_ (pk_ a.out) hb)<|D (qd_ (pB_ HB.out) hb)
  clear a HB;obtain ⟨a,HB⟩:=n_;refine hK.out _ _ (be3_ a.out) (fun hHeld=>?_);clear hK K;refine nx_ (N:=some 6) ?_;refine pb_ 2 ?_;refine ob_ 3 ?_;refine ob_ 4 ?_;refine pb_ 5 ?_;refine pb_ 6 ?_;refine ob_ 7 ?_;refine ob_ 8 ?_;refine ob_ 9 ?_;refine ob_ 10 ?_;refine ob_ 11 ?_;refine ob_ 12 ?_;refine ob_ 13 ?_;refine ob_ 14 ?_;refine ob_ 15 ?_;refine ob_ 16 ?_;refine ob_ 17 ?_;refine ob_ 18 ?_;refine pb_ 19 ?_;refine pb_ 20 ?_;refine done_ (qv_ HT_.out (by kernel_rfl)) ?_
  try go_wp2
  go_ret;exact ⟨er_,pB_ HB.out⟩
def spec_Stride.f (a:Int):Option (Int):=if a < 1 then (some 0) else (if a > 10 then (some 0) else (if a=0 then (none) else (some (wrap64 (Int.tdiv (2520:Int) a)))))
theorem spec_Stride.calls (a r:Int) (w:World) (h:spec_Stride.f a=some r) :
  Calls Try.prog 64 #[I L a] w fun e w'=>e=.returned (I L r)∧Drawn0 w w':=by
 have H:(if a < 1 then (some 0) else (if a > 10 then (some 0) else (if a=0 then (none) else (some (wrap64 (Int.tdiv (2520:Int) a))))))=some r:=h
 clear h
 by_cases c2:a < 1
 ·rw [if_pos c2] at H
  have b:decide (a < 1)=true:=decide_eq_true c2;clear c2;obtain rfl:=Option.some.inj H;go_enter Try.func64,Try.ntmps64
  go_wp2
  go_ret;exact ⟨by first | rfl | (simp;done) | (simp [*];done),by repeat (first | exact Drawn0.refl _ | apply Drawn0.step)⟩
 ·rw [if_neg c2] at H
  have b:decide (a < 1)=false:=decide_eq_false c2;clear c2
  by_cases c3:a > 10
  ·rw [if_pos c3] at H
   have c:decide (10 < a)=true:=decide_eq_true c3;clear c3;obtain rfl:=Option.some.inj H;go_enter Try.func64,Try.ntmps64
   go_wp2
   go_ret;exact ⟨by first | rfl | (simp;done) | (simp [*];done),by repeat (first | exact Drawn0.refl _ | apply Drawn0.step)⟩
  ·rw [if_neg c3] at H
   have c:decide (10 < a)=false:=decide_eq_false c3;clear c3
   by_cases c4:a=0
   ·rw [if_pos c4] at H
    exact absurd H (by simp)
   ·rw [if_neg c4] at H
    have d:(a == 0)=false:=beq_eq_false_iff_ne.mpr c4;have g:(a != 0)=true:=bne_iff_ne.mpr c4;obtain rfl:=Option.some.inj H;go_enter Try.func64,Try.ntmps64
    go_wp2
    go_ret;exact ⟨by first | rfl | (simp;done) | (simp [*];done),by repeat (first | exact Drawn0.refl _ | apply Drawn0.step)⟩
end Go.Proofs.Ytjhgkonacdimfac.PFnExactTreeServe
