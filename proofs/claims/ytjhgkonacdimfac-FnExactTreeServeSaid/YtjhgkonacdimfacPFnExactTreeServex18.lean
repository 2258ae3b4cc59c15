-- by a program of this session's, over the kit's words
import Derived.Test.YtjhgkonacdimfacPZFnExactTreeServe
import Derived.Test.YtjhgkonacdimfacPFnExactTreeServex0
import Derived.Test.YtjhgkonacdimfacPFnExactTreeServex17
namespace Go.Proofs.Ytjhgkonacdimfac.PFnExactTreeServe
open Go.RowKit Go.Proofs.YtjhgkonacdimfacW.PrintWords Go.Proofs.YtjhgkonacdimfacW.PrintLast Go.Proofs.YtjhgkonacdimfacW.PrintMore Go.Proofs.YtjhgkonacdimfacV Go.Proofs.Ytjhgkonacdimfac.ZFnExactTreeServe
open Go.Value renaming int → I, slice → Y
open Go.IntKind renaming i64 → L
open Aside0 renaming mk → D
open Option renaming bind_eq_some_iff → bs_
attribute [local go_sem] qam_ qak_ qaw_ qav_ qae_ qad_ qal_ qaj_
set_option linter.unusedVariables false
set_option linter.unusedSimpArgs false
set_option maxHeartbeats 8000000
set_option maxRecDepth 100000
def laws_eqKid.f (a b:Int) (c:Bool) (d e g h i:Int) (j:Bool) (k l m:Int):Option (Bool):=if a=h then (if b=i then (if (c != j)=true then (some false) else ((laws_eqVec.f d e g k l m).bind fun n=>(if n=true then (some true) else (some false)))) else (some false)) else (some false)
theorem laws_eqKid.calls (g i:Int) (a:Bool) (m n o j k:Int) (b:Bool) (p q s:Int) (r:Bool) (w:World) (h:laws_eqKid.f g i a m n o j k b p q s=some r) :
  Calls Try.prog 85 #[.agg #[I L g,I L i,.bool a,I L m,I L n,I L o],.agg #[I L j,I L k,.bool b,I L p,I L q,I L s]] w fun e w'=>e=.returned (.bool r)∧Below w.heap.size w w':=by
 have hu75:=Try.underlying75
 have hu31:=Try.underlying31
 have HB:=D (Below.refl w.heap.size w)
 have H:(if g=j then (if i=k then (if (a != b)=true then (some false) else ((laws_eqVec.f m n o p q s).bind fun u=>(if u=true then (some true) else (some false)))) else (some false)) else (some false))=some r:=h
 clear h
 have E:=D H
 clear H
 go_enter Try.func85,Try.ntmps85
 go_upto_if 9 with (first|((with_reducible refine qh_ (N:=2) rfl ?_);refine bx_ (N:=2) (cs:=#[I L g,I L i,.bool a,I L m,I L n,I L o]) (t:=75) ?_;intro v hg X hbox hb;have n_:=an_ (qd_ (pB_ HB.out) hb)<|an_ (hbox)<|an_ (bg_ hg (pB_ HB.out):w.heap.size≤v)<|D (bg_ hg (pB_ HB.out):w.heap.size≤v);clear HB;obtain ⟨HB,c,Z,aa⟩:=n_;clear hb hbox hg)|((with_reducible refine qh_ (N:=3) rfl ?_);refine bx_ (N:=3) (cs:=#[I L j,I L k,.bool b,I L p,I L q,I L s]) (t:=75) ?_;intro x hg w5 hbox hb;have n_:=an_ (qa_ (pk_ c.out) hb)<|an_ (qd_ (pB_ HB.out) hb)<|an_ (hbox)<|an_ (bg_ hg (pB_ HB.out):w.heap.size≤x)<|an_ (bg_ hg (pB_ HB.out):w.heap.size≤x)<|an_ (nl_ hg (pk_ c.out):v≠x)<|D (by rw [hg];exact Nat.ne_of_gt (qt_ (pk_ c.out)):x≠v);clear c HB;obtain ⟨c,HB,l,ac,ad,y,z⟩:=n_;clear hb hbox hg;(try have:=y.out);(try have:=z.out);obtain ⟨ae,af,ag,ah,ai,aj,ak,al,am,an,ao,ap⟩:=qm_ c.out;obtain ⟨aq,ar,au,av,aw,ax,ay,az,aA,aB,aC,aD⟩:=qm_ l.out))
 have H:=E.out
 clear E
 by_cases c9:g=j
 ·rw [if_pos c9] at H
  have B:(g == j)=true:=beq_iff_eq.mpr c9;have K:(g != j)=false:=bne_eq_false_iff_eq.mpr c9;clear c9;refine rw_ B ?_
  by_cases c10:i=k
  ·rw [if_pos c10] at H
   have M:(i == k)=true:=beq_iff_eq.mpr c10;have O:(i != k)=false:=bne_eq_false_iff_eq.mpr c10;clear c10
   by_cases d:(a != b)=true
   ·rw [if_pos d] at H
    have P:(a != b)=true:=d;(try (have T:decide (a=b)=false:=by simpa using d));(try (have U:(a == b)=false:=by simpa using d));(try (have aE:¬ (a=b):=by simpa using d));clear d;obtain rfl:=Option.some.inj H;(try have:=y.out);(try have:=z.out);obtain ⟨aF,aG,aH,aI,aJ,aK,aL,aM,aN,aO,aP,aQ⟩:=qm_ c.out;obtain ⟨aR,aS,aT,aU,aV,aW,aX,aY,aZ,a0,a1,a2⟩:=qm_ l.out
    go_wp2
    go_ret;exact ⟨er_,pB_ HB.out⟩
   ·rw [if_neg d] at H
    have P:(a != b)=false:=by simpa using d
    (try (have T:decide (a=b)=true:=by simpa using d));(try (have U:(a == b)=true:=by simpa using d));clear d;obtain ⟨u,G,H⟩:=bs_.mp H;(try dsimp only at H);have W:=D G;clear G;have J:=D H;clear H;(try have:=y.out);(try have:=z.out);obtain ⟨a3,a4,a5,a6,a7,a8,a9,ba,bb,bc,bd,be⟩:=qm_ c.out;obtain ⟨bf,bg,bh,bi,bj,bk,bl,bm,bn,bo,bp,bq⟩:=qm_ l.out
    go_upto_if 25 with (first|((with_reducible refine qe_ (f:=58) rfl ?_);refine qp_ (some 24) rfl rfl Try.func58 (by kernel_rfl) rfl #[.agg #[I L m,I L n,I L o],.agg #[I L p,I L q,I L s]] rfl Z24 ?_;(with_reducible refine (laws_eqVec.calls m n o p q s u _ W.out).mono ?_);rintro e bs ⟨rfl,hb⟩;refine ⟨_,rfl,?_⟩;have n_:=an_ (qa_ (pk_ c.out) hb)<|an_ (qa_ (pk_ l.out) hb)<|D (qd_ (pB_ HB.out) hb);clear c l HB;obtain ⟨c,l,HB⟩:=n_;(try clear hb)))
    have H:=J.out;clear J
    by_cases A:u=true
    ·subst A
     rw [if_pos rfl] at H;obtain rfl:=Option.some.inj H
     go_wp2
     go_ret;exact ⟨er_,pB_ HB.out⟩
    ·replace A:=Bool.eq_false_iff.mpr A
     subst A;rw [if_neg (show ¬ (false=true) by decide)] at H;obtain rfl:=Option.some.inj H
     go_wp2
     go_ret;exact ⟨er_,pB_ HB.out⟩
  ·rw [if_neg c10] at H
   have M:(i == k)=false:=beq_eq_false_iff_ne.mpr c10;have O:(i != k)=true:=bne_iff_ne.mpr c10;obtain rfl:=Option.some.inj H;(try have:=y.out);(try have:=z.out);obtain ⟨bu,bv,bw,bx,bA,bB,bC,bD,bE,bF,bG,bH⟩:=qm_ c.out;obtain ⟨bI,bJ,bK,bL,bM,bN,bO,bP,bQ,bR,bS,bT⟩:=qm_ l.out
   go_wp2
   go_ret;exact ⟨er_,pB_ HB.out⟩
 ·rw [if_neg c9] at H
  have B:(g == j)=false:=beq_eq_false_iff_ne.mpr c9;have K:(g != j)=true:=bne_iff_ne.mpr c9;refine rw_ B ?_;obtain rfl:=Option.some.inj H
  go_wp2
  go_ret;exact ⟨er_,pB_ HB.out⟩
def laws_eqKidS.l0:Nat→List (S75)→List (S75)→Int→Option (Bool)
 | 0,_,_,_=>none
 | k+1,b,c,a=>if a < (b.length:Int) then (if 0≤a then (if a < (c.length:Int) then ((laws_eqKid.f ((qb_ b a).f0) ((qb_ b a).f1) ((qb_ b a).f2) ((qb_ b a).f3.f0) ((qb_ b a).f3.f1) ((qb_ b a).f3.f2) ((qb_ c a).f0) ((qb_ c a).f1) ((qb_ c a).f2) ((qb_ c a).f3.f0) ((qb_ c a).f3.f1) ((qb_ c a).f3.f2)).bind fun d=>(if d=true then (laws_eqKidS.l0 k b c (wrap64 (a+1))) else (some false))) else (none)) else (none)) else (some true)
def laws_eqKidS.f (k:Nat) (l0 a:List (S75)):Option (Bool):=if (l0.length:Int)=(a.length:Int) then (laws_eqKidS.l0 k l0 a 0) else (some false)
def laws_eqKidS.T6:Bool×List (List Nat×List Nat):=(true,[([],[]),([],[]),([0,1],[0,1]),([2],[2]),([],[]),([],[]),([4,5],[4,5]),([6],[6]),([3,7],[3,7]),([8],[8])])
def laws_eqKidS.B6:List Nat:=[0,0,3,7,0,0,48,112,255,511]
theorem laws_eqKidS.tab6:rtab .any (opsOf Try.f59 6)=laws_eqKidS.T6:=by kernel_rfl
theorem laws_eqKidS.bits6:q3_ laws_eqKidS.T6.2 laws_eqKidS.B6=true:=by kernel_rfl
theorem laws_eqKidS.calls (k:Nat) (J:Option Addr) (M:Nat) (l0:List (S75)) (O:Option Addr) (z:Nat) (b:List (S75)) (r:Bool) (w:World) (P:Kd.C k75 w J l0.length l0) (T:l0.length≤M) (U:Kd.C k75 w O b.length b) (W:b.length≤z) (h:laws_eqKidS.f k l0 b=some r) :
  Calls Try.prog 59 #[Y J l0.length M,Y O b.length z] w fun e w'=>e=.returned (.bool r)∧Below w.heap.size w w':=by
 have hu75:=Try.underlying75
 have ar:=D P
 have aB:=D T
 clear P T
 have au:=D U
 have aC:=D W
 clear U W
 have HB:=D (Below.refl w.heap.size w)
 have H:(if (l0.length:Int)=(b.length:Int) then (laws_eqKidS.l0 k l0 b 0) else (some false))=some r:=h
 clear h
 by_cases c3:(l0.length:Int)=(b.length:Int)
 ·rw [if_pos c3] at H
  have X:((l0.length:Int) == (b.length:Int))=true:=beq_iff_eq.mpr c3;have Z:((l0.length:Int) != (b.length:Int))=false:=bne_eq_false_iff_eq.mpr c3
  have aa:(l0.length == b.length)=true:=by first | simpa using c3 | (simp at c3 ⊢;omega)
  clear c3;have H':=D H;clear H;go_enter Try.func59,Try.ntmps59
  go_wp2
  go_loopg [5] k (fun kq v5 w'=>∃ (a:Int),v5=I L a∧Aside0 (laws_eqKidS.l0 kq l0 b a=some r)∧Aside0 (kq≤k)∧Aside0 (Below w.heap.size w w'))
  case atStart=>exact ⟨(0),Z92,H',⟨Nat.le_refl _⟩,⟨pB_ HB.out⟩⟩
  case round =>
   clear H'
   (try clear z);(try clear p2);(try clear c3);(try clear X);(try clear Z);(try clear aa)
   obtain ⟨a,rfl,HA,ab,HB⟩:=hrel
   cases gk with
   | zero=>exact absurd HA.out (by simp [laws_eqKidS.l0])
   | succ k1 =>
    have H:=HA.out;clear HA;simp only [laws_eqKidS.l0] at H
    by_cases c4:a < (l0.length:Int)
    ·rw [if_pos c4] at H
     have ax:decide (a < (l0.length:Int))=true:=decide_eq_true c4;clear c4
     by_cases c5:0≤a
     ·rw [if_pos c5] at H
      have aE:decide (0≤a)=true:=decide_eq_true c5;clear c5
      by_cases c6:a < (b.length:Int)
      ·rw [if_pos c6] at H
       have aF:decide (a < (b.length:Int))=true:=decide_eq_true c6;clear c6;obtain ⟨ac,ad,H⟩:=bs_.mp H;(try dsimp only at H);have A7:=D ad;clear ad;have ae:=D H;clear H
       try go_wp2
       have g:=D (ql_ HB.out);clear HB;have HB:=g;clear g;have A:0≤(a:Int):=od_ Z91;have B:a < (l0.length:Int):=od_ Z91;obtain ⟨c,az,i,j,l,m,o,p⟩:=qac_ ar.out a A B;have af:=p;have ag:=o;have ah:=m;have ai:=l;have aj:=j;have ak:=i;cases az;replace i:=rc_ HB.out i;replace j:=rc_ HB.out j;replace l:=rc_ HB.out l;replace m:=rc_ HB.out m;replace o:=rc_ HB.out o;replace p:=rc_ HB.out p;replace A:=eq_true A;replace B:=eq_true B;have E:0≤(a:Int):=od_ Z91;have G:a < (b.length:Int):=od_ Z91;obtain ⟨d,aA,q,s,t,u,v,x⟩:=qac_ au.out a E G;have al:=x;have am:=v;have an:=u;have ao:=t;have ap:=s;have aq:=q;cases aA;replace q:=rc_ HB.out q;replace s:=rc_ HB.out s;replace t:=rc_ HB.out t;replace u:=rc_ HB.out u;replace v:=rc_ HB.out v;replace x:=rc_ HB.out x;replace E:=eq_true E;replace G:=eq_true G;refine q1_ (n:=10) (S:=fun w'=>w'.cell? (c.add ((a).toNat * 6))=some (I L ((qb_ l0 a).f0))∧w'.cell? ⟨(c.add ((a).toNat * 6)).block,(c.add ((a).toNat * 6)).off+1,none⟩=some (I L ((qb_ l0 a).f1))∧w'.cell? ⟨(c.add ((a).toNat * 6)).block,(c.add ((a).toNat * 6)).off+2,none⟩=some (.bool ((qb_ l0 a).f2))∧w'.cell? ⟨(c.add ((a).toNat * 6)).block,(c.add ((a).toNat * 6)).off+3,none⟩=some (I L ((qb_ l0 a).f3.f0))∧w'.cell? ⟨(c.add ((a).toNat * 6)).block,(c.add ((a).toNat * 6)).off+4,none⟩=some (I L ((qb_ l0 a).f3.f1))∧w'.cell? ⟨(c.add ((a).toNat * 6)).block,(c.add ((a).toNat * 6)).off+5,none⟩=some (I L ((qb_ l0 a).f3.f2))∧w'.cell? (d.add ((a).toNat * 6))=some (I L ((qb_ b a).f0))∧w'.cell? ⟨(d.add ((a).toNat * 6)).block,(d.add ((a).toNat * 6)).off+1,none⟩=some (I L ((qb_ b a).f1))∧w'.cell? ⟨(d.add ((a).toNat * 6)).block,(d.add ((a).toNat * 6)).off+2,none⟩=some (.bool ((qb_ b a).f2))∧w'.cell? ⟨(d.add ((a).toNat * 6)).block,(d.add ((a).toNat * 6)).off+3,none⟩=some (I L ((qb_ b a).f3.f0))∧w'.cell? ⟨(d.add ((a).toNat * 6)).block,(d.add ((a).toNat * 6)).off+4,none⟩=some (I L ((qb_ b a).f3.f1))∧w'.cell? ⟨(d.add ((a).toNat * 6)).block,(d.add ((a).toNat * 6)).off+5,none⟩=some (I L ((qb_ b a).f3.f2))) (ds:=[]) (bz 10 0) (by kernel_rfl) rfl (by kernel_rfl) (rk6_ HB.out ak aj ai ah ag af (re6_ HB.out aq ap ao an am al)) (fun hHeld=>?_);refine qn_ laws_eqKidS.tab6 laws_eqKidS.bits6 (fun HT_ HW_=>?_)
       generalize wr.drew=w9 at HB i j l m o p q s t u v x hHeld ⊢;refine pb_ 0 ?_;refine pb_ 1 ?_;refine pb_ 2 ?_;refine pb_ 4 ?_;refine pb_ 5 ?_;refine pb_ 6 ?_;refine tb_ 3 rfl rfl hHeld Z44 ?_;refine tb_ 7 rfl rfl hHeld Z44 ?_;refine oa_ 8 25 10 511 HT_ (fun K hK=>?_);refine goes_ Try.func85 (by kernel_rfl) rfl #[.agg #[I L ((qb_ l0 a).f0),I L ((qb_ l0 a).f1),.bool ((qb_ l0 a).f2),I L ((qb_ l0 a).f3.f0),I L ((qb_ l0 a).f3.f1),I L ((qb_ l0 a).f3.f2)],.agg #[I L ((qb_ b a).f0),I L ((qb_ b a).f1),.bool ((qb_ b a).f2),I L ((qb_ b a).f3.f0),I L ((qb_ b a).f3.f1),I L ((qb_ b a).f3.f2)]] (by rfl) rfl rfl Z24 ?_;with_reducible refine (laws_eqKid.calls ((qb_ l0 a).f0) ((qb_ l0 a).f1) ((qb_ l0 a).f2) ((qb_ l0 a).f3.f0) ((qb_ l0 a).f3.f1) ((qb_ l0 a).f3.f2) ((qb_ b a).f0) ((qb_ b a).f1) ((qb_ b a).f2) ((qb_ b a).f3.f0) ((qb_ b a).f3.f1) ((qb_ b a).f3.f2) ac _ A7.out).mono ?_
       rintro e aH ⟨rfl,hb⟩;refine ⟨_,rfl,?_⟩;have g:=D (qd_ (pB_ HB.out) hb);clear HB;have HB:=g;clear g;(try clear hb);refine hK.out _ _ (rk6_ HB.out ak aj ai ah ag af (re6_ HB.out aq ap ao an am al)) (fun hHeld=>?_);clear hK K;refine nx_ (N:=some 25) ?_;refine pb_ 9 ?_;refine done_ (qv_ HT_.out (by kernel_rfl)) ?_
       go_upto_if 26 with (fail)
       have H:=ae.out;clear ae
       by_cases y:ac=true
       ·subst y
        rw [if_pos rfl] at H;have H':=D H;clear H
        go_wp2
        go_roundg k1
        case measure=>have:=ab.out;omega
        case rel=>exact ⟨(wrap64 (a+1)),Z92,H',⟨by have:=ab.out;omega⟩,⟨pB_ HB.out⟩⟩
       ·replace y:=Bool.eq_false_iff.mpr y
        subst y;rw [if_neg (show ¬ (false=true) by decide)] at H;obtain rfl:=Option.some.inj H
        go_wp2
        go_ret;exact ⟨er_,pB_ HB.out⟩
      ·rw [if_neg c6] at H
       exact absurd H (by simp)
     ·rw [if_neg c5] at H
      exact absurd H (by simp)
    ·rw [if_neg c4] at H
     have ax:decide (a < (l0.length:Int))=false:=decide_eq_false c4;clear c4;obtain rfl:=Option.some.inj H
     go_wp2
     go_ret;exact ⟨er_,pB_ HB.out⟩
 ·rw [if_neg c3] at H
  have X:((l0.length:Int) == (b.length:Int))=false:=beq_eq_false_iff_ne.mpr c3;have Z:((l0.length:Int) != (b.length:Int))=true:=bne_iff_ne.mpr c3
  have aa:(l0.length == b.length)=false:=by first | simpa using c3 | (simp at c3 ⊢;omega)
  obtain rfl:=Option.some.inj H;go_enter Try.func59,Try.ntmps59
  go_wp2
  go_ret;exact ⟨er_,pB_ HB.out⟩
def laws_eqFair.f (k:Nat) (a b c d:Int) (e:List (S75)) (g h i j:Int) (l:List (S75)):Option (Bool):=if a=g then ((laws_eqVec.f b c d h i j).bind fun m=>(if m=true then ((laws_eqKidS.f k e l).bind fun n=>(if n=true then (some true) else (some false))) else (some false))) else (some false)
theorem laws_eqFair.calls (k:Nat) (b j l m:Int) (q:Option Addr) (s:Nat) (c:List (S75)) (d n o p:Int) (u:Option Addr) (v:Nat) (g:List (S75)) (r:Bool) (w:World) (M:Kd.C k75 w q c.length c) (O:c.length≤s) (P:Kd.C k75 w u g.length g) (T:g.length≤v) (h:laws_eqFair.f k b j l m c d n o p g=some r) :
  Calls Try.prog 30 #[.agg #[I L b,I L j,I L l,I L m,Y q c.length s],.agg #[I L d,I L n,I L o,I L p,Y u g.length v]] w fun e w'=>e=.returned (.bool r)∧Below w.heap.size w w':=by
 have hu34:=Try.underlying34
 have hu31:=Try.underlying31
 have ab:=D M
 have ac:=D O
 clear M O
 have ad:=D P
 have ae:=D T
 clear P T
 have HB:=D (Below.refl w.heap.size w)
 have H:(if b=d then ((laws_eqVec.f j l m n o p).bind fun x=>(if x=true then ((laws_eqKidS.f k c g).bind fun y=>(if y=true then (some true) else (some false))) else (some false))) else (some false))=some r:=h
 clear h
 have U:=D H
 clear H
 go_enter Try.func30,Try.ntmps30
 go_upto_if 9 with (first|((with_reducible refine qh_ (N:=2) rfl ?_);refine bx_ (N:=2) (cs:=#[I L b,I L j,I L l,I L m,Y q c.length s]) (t:=34) ?_;intro z hg w4 hbox hb;have n_:=an_ (qd_ (pB_ HB.out) hb)<|an_ (hbox)<|an_ (bg_ hg (pB_ HB.out):w.heap.size≤z)<|D (bg_ hg (pB_ HB.out):w.heap.size≤z);clear HB;obtain ⟨HB,a,aj,ak⟩:=n_;clear hb hbox hg)|((with_reducible refine qh_ (N:=3) rfl ?_);refine bx_ (N:=3) (cs:=#[I L d,I L n,I L o,I L p,Y u g.length v]) (t:=34) ?_;intro A hg w5 hbox hb;have n_:=an_ (qa_ (pk_ a.out) hb)<|an_ (qd_ (pB_ HB.out) hb)<|an_ (hbox)<|an_ (bg_ hg (pB_ HB.out):w.heap.size≤A)<|an_ (bg_ hg (pB_ HB.out):w.heap.size≤A)<|an_ (nl_ hg (pk_ a.out):z≠A)<|D (by rw [hg];exact Nat.ne_of_gt (qt_ (pk_ a.out)):A≠z);clear a HB;obtain ⟨a,HB,i,am,an,G,J⟩:=n_;clear hb hbox hg;(try have:=G.out);(try have:=J.out);obtain ⟨ao,ap,aq,ar,au,av,aw,ax,ay,az⟩:=qx_ a.out;obtain ⟨aA,aB,aC,aD,aE,aF,aG,aH,aI,aJ⟩:=qx_ i.out))
 have H:=U.out
 clear U
 by_cases c9:b=d
 ·rw [if_pos c9] at H
  have K:(b == d)=true:=beq_iff_eq.mpr c9;have af:(b != d)=false:=bne_eq_false_iff_eq.mpr c9;clear c9;refine rw_ K ?_;obtain ⟨x,W,H⟩:=bs_.mp H;(try dsimp only at H);have ag:=D W;clear W;have X:=D H;clear H;(try have:=G.out);(try have:=J.out);obtain ⟨aK,aL,aM,aN,aO,aP,aQ,aR,aS,aT⟩:=qx_ a.out;obtain ⟨aU,aV,aW,aX,aY,aZ,a0,a1,a2,a3⟩:=qx_ i.out
  go_upto_if 15 with (first|((with_reducible refine qe_ (f:=58) rfl ?_);refine qp_ (some 14) rfl rfl Try.func58 (by kernel_rfl) rfl #[.agg #[I L j,I L l,I L m],.agg #[I L n,I L o,I L p]] rfl Z24 ?_;(with_reducible refine (laws_eqVec.calls j l m n o p x _ ag.out).mono ?_);rintro e a4 ⟨rfl,hb⟩;refine ⟨_,rfl,?_⟩;have n_:=an_ (qa_ (pk_ a.out) hb)<|an_ (qa_ (pk_ i.out) hb)<|D (qd_ (pB_ HB.out) hb);clear a i HB;obtain ⟨a,i,HB⟩:=n_;(try clear hb)))
  have H:=X.out;clear X
  by_cases B:x=true
  ·subst B
   rw [if_pos rfl] at H;obtain ⟨y,Z,H⟩:=bs_.mp H;(try dsimp only at H);have ah:=D Z;clear Z;have aa:=D H;clear H;(try have:=G.out);(try have:=J.out);obtain ⟨a5,a6,a7,a8,a9,ba,bb,bc,bd,be⟩:=qx_ a.out;obtain ⟨bf,bg,bh,bi,bj,bk,bl,bm,bn,bo⟩:=qx_ i.out
   go_upto_if 21 with (first|((with_reducible refine qe_ (f:=59) rfl ?_);refine qp_ (some 20) rfl rfl Try.func59 (by kernel_rfl) rfl #[Y q c.length s,Y u g.length v] rfl Z24 ?_;(with_reducible refine (laws_eqKidS.calls k _ _ c _ _ g y _ ?side1 ?side2 ?side3 ?side4 ah.out).mono ?_);(case side1=>exact pC_ (Kd.C_below ab.out HB.out));(case side2=>exact ac.out);(case side3=>exact pC_ (Kd.C_below ad.out HB.out));(case side4=>exact ae.out);rintro e bp ⟨rfl,hb⟩;refine ⟨_,rfl,?_⟩;have n_:=an_ (qa_ (pk_ a.out) hb)<|an_ (qa_ (pk_ i.out) hb)<|D (qd_ (pB_ HB.out) hb);clear a i HB;obtain ⟨a,i,HB⟩:=n_;(try clear hb)))
   have H:=aa.out;clear aa
   by_cases E:y=true
   ·subst E
    rw [if_pos rfl] at H;obtain rfl:=Option.some.inj H
    go_wp2
    go_ret;exact ⟨er_,pB_ HB.out⟩
   ·replace E:=Bool.eq_false_iff.mpr E
    subst E;rw [if_neg (show ¬ (false=true) by decide)] at H;obtain rfl:=Option.some.inj H
    go_wp2
    go_ret;exact ⟨er_,pB_ HB.out⟩
  ·replace B:=Bool.eq_false_iff.mpr B
   subst B;rw [if_neg (show ¬ (false=true) by decide)] at H;obtain rfl:=Option.some.inj H
   go_wp2
   go_ret;exact ⟨er_,pB_ HB.out⟩
 ·rw [if_neg c9] at H
  have K:(b == d)=false:=beq_eq_false_iff_ne.mpr c9;have af:(b != d)=true:=bne_iff_ne.mpr c9;refine rw_ K ?_;obtain rfl:=Option.some.inj H
  go_wp2
  go_ret;exact ⟨er_,pB_ HB.out⟩
def laws_eqBranch.f (k:Nat) (a b c d e:Int) (l0_5:List (S75)) (g h i j l:Int) (m:List (S75)):Option (Bool):=if a=g then ((laws_eqFair.f k b c d e l0_5 h i j l m).bind fun n=>(if n=true then (some true) else (some false))) else (some false)
theorem laws_eqBranch.calls (k:Nat) (b g i j l:Int) (s:Option Addr) (u:Nat) (l0_5:List (S75)) (c m n o p:Int) (v:Option Addr) (x:Nat) (d:List (S75)) (r:Bool) (w:World) (G:Kd.C k75 w s l0_5.length l0_5) (J:l0_5.length≤u) (K:Kd.C k75 w v d.length d) (M:d.length≤x) (h:laws_eqBranch.f k b g i j l l0_5 c m n o p d=some r) :
  Calls Try.prog 60 #[.agg #[I L b,I L g,I L i,I L j,I L l,Y s l0_5.length u],.agg #[I L c,I L m,I L n,I L o,I L p,Y v d.length x]] w fun e w'=>e=.returned (.bool r)∧Below w.heap.size w w':=by
 have hu54:=Try.underlying54
 have hu34:=Try.underlying34
 have X:=D G
 have Z:=D J
 clear G J
 have aa:=D K
 have ab:=D M
 clear K M
 have HB:=D (Below.refl w.heap.size w)
 have H:(if b=c then ((laws_eqFair.f k g i j l l0_5 m n o p d).bind fun y=>(if y=true then (some true) else (some false))) else (some false))=some r:=h
 clear h
 have O:=D H
 clear H
 go_enter Try.func60,Try.ntmps60
 go_upto_if 9 with (first|((with_reducible refine qh_ (N:=2) rfl ?_);refine bx_ (N:=2) (cs:=#[I L b,I L g,I L i,I L j,I L l,Y s l0_5.length u]) (t:=54) ?_;intro z hg w4 hbox hb;have n_:=an_ (qd_ (pB_ HB.out) hb)<|an_ (hbox)<|an_ (bg_ hg (pB_ HB.out):w.heap.size≤z)<|D (bg_ hg (pB_ HB.out):w.heap.size≤z);clear HB;obtain ⟨HB,a,af,ag⟩:=n_;clear hb hbox hg)|((with_reducible refine qh_ (N:=3) rfl ?_);refine bx_ (N:=3) (cs:=#[I L c,I L m,I L n,I L o,I L p,Y v d.length x]) (t:=54) ?_;intro A hg w5 hbox hb;have n_:=an_ (qa_ (pk_ a.out) hb)<|an_ (qd_ (pB_ HB.out) hb)<|an_ (hbox)<|an_ (bg_ hg (pB_ HB.out):w.heap.size≤A)<|an_ (bg_ hg (pB_ HB.out):w.heap.size≤A)<|an_ (nl_ hg (pk_ a.out):z≠A)<|D (by rw [hg];exact Nat.ne_of_gt (qt_ (pk_ a.out)):A≠z);clear a HB;obtain ⟨a,HB,q,ai,aj,P,T⟩:=n_;clear hb hbox hg;(try have:=P.out);(try have:=T.out);obtain ⟨ak,al,am,an,ao,ap,aq,ar,au,av,aw,ax⟩:=qm_ a.out;obtain ⟨ay,az,aA,aB,aC,aD,aE,aF,aG,aH,aI,aJ⟩:=qm_ q.out))
 have H:=O.out
 clear O
 by_cases c9:b=c
 ·rw [if_pos c9] at H
  have E:(b == c)=true:=beq_iff_eq.mpr c9;have ac:(b != c)=false:=bne_eq_false_iff_eq.mpr c9;clear c9;refine rw_ E ?_;obtain ⟨y,U,H⟩:=bs_.mp H;(try dsimp only at H);have ad:=D U;clear U;have W:=D H;clear H;(try have:=P.out);(try have:=T.out);obtain ⟨aK,aL,aM,aN,aO,aP,aQ,aR,aS,aT,aU,aV⟩:=qm_ a.out;obtain ⟨aW,aX,aY,aZ,a0,a1,a2,a3,a4,a5,a6,a7⟩:=qm_ q.out
  go_upto_if 15 with (first|((with_reducible refine qe_ (f:=30) rfl ?_);refine qp_ (some 14) rfl rfl Try.func30 (by kernel_rfl) rfl #[.agg #[I L g,I L i,I L j,I L l,Y s l0_5.length u],.agg #[I L m,I L n,I L o,I L p,Y v d.length x]] rfl Z24 ?_;(with_reducible refine (laws_eqFair.calls k g i j l _ _ l0_5 m n o p _ _ d y _ ?side1 ?side2 ?side3 ?side4 ad.out).mono ?_);(case side1=>exact pC_ (Kd.C_below X.out HB.out));(case side2=>exact Z.out);(case side3=>exact pC_ (Kd.C_below aa.out HB.out));(case side4=>exact ab.out);rintro e a8 ⟨rfl,hb⟩;refine ⟨_,rfl,?_⟩;have n_:=an_ (qa_ (pk_ a.out) hb)<|an_ (qa_ (pk_ q.out) hb)<|D (qd_ (pB_ HB.out) hb);clear a q HB;obtain ⟨a,q,HB⟩:=n_;(try clear hb)))
  have H:=W.out;clear W
  by_cases B:y=true
  ·subst B
   rw [if_pos rfl] at H;obtain rfl:=Option.some.inj H
   go_wp2
   go_ret;exact ⟨er_,pB_ HB.out⟩
  ·replace B:=Bool.eq_false_iff.mpr B
   subst B;rw [if_neg (show ¬ (false=true) by decide)] at H;obtain rfl:=Option.some.inj H
   go_wp2
   go_ret;exact ⟨er_,pB_ HB.out⟩
 ·rw [if_neg c9] at H
  have E:(b == c)=false:=beq_eq_false_iff_ne.mpr c9;have ac:(b != c)=true:=bne_iff_ne.mpr c9;refine rw_ E ?_;obtain rfl:=Option.some.inj H
  go_wp2
  go_ret;exact ⟨er_,pB_ HB.out⟩
def laws_eqBranchS.l0:Nat→List (S54)→List (S54)→Int→Option (Bool)
 | 0,_,_,_=>none
 | k+1,b,c,a=>if a < (b.length:Int) then (if 0≤a then (if a < (c.length:Int) then ((laws_eqBranch.f k ((qc_ b a).f0) ((qc_ b a).f1.f0) ((qc_ b a).f1.f1.f0) ((qc_ b a).f1.f1.f1) ((qc_ b a).f1.f1.f2) ((qc_ b a).f1.f2) ((qc_ c a).f0) ((qc_ c a).f1.f0) ((qc_ c a).f1.f1.f0) ((qc_ c a).f1.f1.f1) ((qc_ c a).f1.f1.f2) ((qc_ c a).f1.f2)).bind fun d=>(if d=true then (laws_eqBranchS.l0 k b c (wrap64 (a+1))) else (some false))) else (none)) else (none)) else (some true)
def laws_eqBranchS.f (k:Nat) (l0 a:List (S54)):Option (Bool):=if (l0.length:Int)=(a.length:Int) then (laws_eqBranchS.l0 k l0 a 0) else (some false)
def laws_eqBranchS.T6:Bool×List (List Nat×List Nat):=(true,[([],[]),([],[]),([0,1],[0,1]),([2],[2]),([],[]),([],[]),([4,5],[4,5]),([6],[6]),([3,7],[3,7]),([8],[8])])
def laws_eqBranchS.B6:List Nat:=[0,0,3,7,0,0,48,112,255,511]
theorem laws_eqBranchS.tab6:rtab .any (opsOf Try.f31 6)=laws_eqBranchS.T6:=by kernel_rfl
theorem laws_eqBranchS.bits6:q3_ laws_eqBranchS.T6.2 laws_eqBranchS.B6=true:=by kernel_rfl
theorem laws_eqBranchS.calls (k:Nat) (J:Option Addr) (M:Nat) (l0:List (S54)) (O:Option Addr) (z:Nat) (b:List (S54)) (r:Bool) (w:World) (P:Kd.C k54 w J l0.length l0) (T:l0.length≤M) (U:Kd.C k54 w O b.length b) (W:b.length≤z) (h:laws_eqBranchS.f k l0 b=some r) :
  Calls Try.prog 31 #[Y J l0.length M,Y O b.length z] w fun e w'=>e=.returned (.bool r)∧Below w.heap.size w w':=by
 have hu54:=Try.underlying54
 have aE:=D P
 have aN:=D T
 clear P T
 have aF:=D U
 have aO:=D W
 clear U W
 have HB:=D (Below.refl w.heap.size w)
 have H:(if (l0.length:Int)=(b.length:Int) then (laws_eqBranchS.l0 k l0 b 0) else (some false))=some r:=h
 clear h
 by_cases c3:(l0.length:Int)=(b.length:Int)
 ·rw [if_pos c3] at H
  have X:((l0.length:Int) == (b.length:Int))=true:=beq_iff_eq.mpr c3;have Z:((l0.length:Int) != (b.length:Int))=false:=bne_eq_false_iff_eq.mpr c3
  have aa:(l0.length == b.length)=true:=by first | simpa using c3 | (simp at c3 ⊢;omega)
  clear c3;have H':=D H;clear H;go_enter Try.func31,Try.ntmps31
  go_wp2
  go_loopg [5] k (fun kq v5 w'=>∃ (a:Int),v5=I L a∧Aside0 (laws_eqBranchS.l0 kq l0 b a=some r)∧Aside0 (kq≤k)∧Aside0 (Below w.heap.size w w'))
  case atStart=>exact ⟨(0),Z92,H',⟨Nat.le_refl _⟩,⟨pB_ HB.out⟩⟩
  case round =>
   clear H'
   (try clear z);(try clear p2);(try clear c3);(try clear X);(try clear Z);(try clear aa)
   obtain ⟨a,rfl,HA,ab,HB⟩:=hrel
   cases gk with
   | zero=>exact absurd HA.out (by simp [laws_eqBranchS.l0])
   | succ k1 =>
    have H:=HA.out;clear HA;simp only [laws_eqBranchS.l0] at H
    by_cases c4:a < (l0.length:Int)
    ·rw [if_pos c4] at H
     have aH:decide (a < (l0.length:Int))=true:=decide_eq_true c4;clear c4
     by_cases c5:0≤a
     ·rw [if_pos c5] at H
      have aQ:decide (0≤a)=true:=decide_eq_true c5;clear c5
      by_cases c6:a < (b.length:Int)
      ·rw [if_pos c6] at H
       have aR:decide (a < (b.length:Int))=true:=decide_eq_true c6;clear c6;obtain ⟨ad,ae,H⟩:=bs_.mp H;(try dsimp only at H);have A7:=D ae;clear ae;have af:=D H;clear H
       try go_wp2
       have g:=D (ql_ HB.out);clear HB;have HB:=g;clear g;have A:0≤(a:Int):=od_ Z91;have B:a < (l0.length:Int):=od_ Z91;obtain ⟨c,ag,ah,aJ,i,j,l,m,o,p,ai,aj⟩:=qaz_ aE.out a A B;have ak:=p;have al:=o;have am:=m;have an:=l;have ao:=j;have ap:=i;cases aJ;replace i:=rc_ HB.out i;replace j:=rc_ HB.out j;replace l:=rc_ HB.out l;replace m:=rc_ HB.out m;replace o:=rc_ HB.out o;replace p:=rc_ HB.out p;have aq:=D aj;have aK:=D ai;clear aj ai;replace A:=eq_true A;replace B:=eq_true B;have E:0≤(a:Int):=od_ Z91;have G:a < (b.length:Int):=od_ Z91;obtain ⟨d,ar,au,aL,q,s,t,u,v,x,av,aw⟩:=qaz_ aF.out a E G;have ax:=x;have ay:=v;have az:=u;have aA:=t;have aB:=s;have aC:=q;cases aL;replace q:=rc_ HB.out q;replace s:=rc_ HB.out s;replace t:=rc_ HB.out t;replace u:=rc_ HB.out u;replace v:=rc_ HB.out v;replace x:=rc_ HB.out x;have aD:=D aw;have aM:=D av;clear aw av;replace E:=eq_true E;replace G:=eq_true G;refine q1_ (n:=10) (S:=fun w'=>w'.cell? (c.add ((a).toNat * 6))=some (I L ((qc_ l0 a).f0))∧w'.cell? ⟨(c.add ((a).toNat * 6)).block,(c.add ((a).toNat * 6)).off+1,none⟩=some (I L ((qc_ l0 a).f1.f0))∧w'.cell? ⟨(c.add ((a).toNat * 6)).block,(c.add ((a).toNat * 6)).off+2,none⟩=some (I L ((qc_ l0 a).f1.f1.f0))∧w'.cell? ⟨(c.add ((a).toNat * 6)).block,(c.add ((a).toNat * 6)).off+3,none⟩=some (I L ((qc_ l0 a).f1.f1.f1))∧w'.cell? ⟨(c.add ((a).toNat * 6)).block,(c.add ((a).toNat * 6)).off+4,none⟩=some (I L ((qc_ l0 a).f1.f1.f2))∧w'.cell? ⟨(c.add ((a).toNat * 6)).block,(c.add ((a).toNat * 6)).off+5,none⟩=some (Y ag ((qc_ l0 a).f1.f2).length ah)∧w'.cell? (d.add ((a).toNat * 6))=some (I L ((qc_ b a).f0))∧w'.cell? ⟨(d.add ((a).toNat * 6)).block,(d.add ((a).toNat * 6)).off+1,none⟩=some (I L ((qc_ b a).f1.f0))∧w'.cell? ⟨(d.add ((a).toNat * 6)).block,(d.add ((a).toNat * 6)).off+2,none⟩=some (I L ((qc_ b a).f1.f1.f0))∧w'.cell? ⟨(d.add ((a).toNat * 6)).block,(d.add ((a).toNat * 6)).off+3,none⟩=some (I L ((qc_ b a).f1.f1.f1))∧w'.cell? ⟨(d.add ((a).toNat * 6)).block,(d.add ((a).toNat * 6)).off+4,none⟩=some (I L ((qc_ b a).f1.f1.f2))∧w'.cell? ⟨(d.add ((a).toNat * 6)).block,(d.add ((a).toNat * 6)).off+5,none⟩=some (Y ar ((qc_ b a).f1.f2).length au)) (ds:=[]) (bz 10 0) (by kernel_rfl) rfl (by kernel_rfl) (rk6_ HB.out ap ao an am al ak (re6_ HB.out aC aB aA az ay ax)) (fun hHeld=>?_);refine qn_ laws_eqBranchS.tab6 laws_eqBranchS.bits6 (fun HT_ HW_=>?_)
       generalize wr.drew=w9 at HB aq aD i j l m o p q s t u v x hHeld ⊢;refine pb_ 0 ?_;refine pb_ 1 ?_;refine pb_ 2 ?_;refine pb_ 4 ?_;refine pb_ 5 ?_;refine pb_ 6 ?_;refine tb_ 3 rfl rfl hHeld Z44 ?_;refine tb_ 7 rfl rfl hHeld Z44 ?_;refine oa_ 8 25 10 511 HT_ (fun K hK=>?_);refine goes_ Try.func60 (by kernel_rfl) rfl #[.agg #[I L ((qc_ l0 a).f0),I L ((qc_ l0 a).f1.f0),I L ((qc_ l0 a).f1.f1.f0),I L ((qc_ l0 a).f1.f1.f1),I L ((qc_ l0 a).f1.f1.f2),Y ag ((qc_ l0 a).f1.f2).length ah],.agg #[I L ((qc_ b a).f0),I L ((qc_ b a).f1.f0),I L ((qc_ b a).f1.f1.f0),I L ((qc_ b a).f1.f1.f1),I L ((qc_ b a).f1.f1.f2),Y ar ((qc_ b a).f1.f2).length au]] (by rfl) rfl rfl Z24 ?_;with_reducible refine (laws_eqBranch.calls k1 ((qc_ l0 a).f0) ((qc_ l0 a).f1.f0) ((qc_ l0 a).f1.f1.f0) ((qc_ l0 a).f1.f1.f1) ((qc_ l0 a).f1.f1.f2) _ _ ((qc_ l0 a).f1.f2) ((qc_ b a).f0) ((qc_ b a).f1.f0) ((qc_ b a).f1.f1.f0) ((qc_ b a).f1.f1.f1) ((qc_ b a).f1.f1.f2) _ _ ((qc_ b a).f1.f2) ad _ ?side1 ?side2 ?side3 ?side4 A7.out).mono ?_
       (case side1=>exact pC_ (Kd.C_below aq.out HB.out));(case side2=>exact aK.out);(case side3=>exact pC_ (Kd.C_below aD.out HB.out));(case side4=>exact aM.out);rintro e aT ⟨rfl,hb⟩;refine ⟨_,rfl,?_⟩;have g:=D (qd_ (pB_ HB.out) hb);clear HB;have HB:=g;clear g;(try clear hb);refine hK.out _ _ (rk6_ HB.out ap ao an am al ak (re6_ HB.out aC aB aA az ay ax)) (fun hHeld=>?_);clear hK K;refine nx_ (N:=some 25) ?_;refine pb_ 9 ?_;refine done_ (qv_ HT_.out (by kernel_rfl)) ?_
       go_upto_if 26 with (fail)
       have H:=af.out;clear af
       by_cases y:ad=true
       ·subst y
        rw [if_pos rfl] at H;have H':=D H;clear H
        go_wp2
        go_roundg k1
        case measure=>have:=ab.out;omega
        case rel=>exact ⟨(wrap64 (a+1)),Z92,H',⟨by have:=ab.out;omega⟩,⟨pB_ HB.out⟩⟩
       ·replace y:=Bool.eq_false_iff.mpr y
        subst y;rw [if_neg (show ¬ (false=true) by decide)] at H;obtain rfl:=Option.some.inj H
        go_wp2
        go_ret;exact ⟨er_,pB_ HB.out⟩
      ·rw [if_neg c6] at H
       exact absurd H (by simp)
     ·rw [if_neg c5] at H
      exact absurd H (by simp)
    ·rw [if_neg c4] at H
     have aH:decide (a < (l0.length:Int))=false:=decide_eq_false c4;clear c4;obtain rfl:=Option.some.inj H
     go_wp2
     go_ret;exact ⟨er_,pB_ HB.out⟩
 ·rw [if_neg c3] at H
  have X:((l0.length:Int) == (b.length:Int))=false:=beq_eq_false_iff_ne.mpr c3;have Z:((l0.length:Int) != (b.length:Int))=true:=bne_iff_ne.mpr c3
  have aa:(l0.length == b.length)=false:=by first | simpa using c3 | (simp at c3 ⊢;omega)
  obtain rfl:=Option.some.inj H;go_enter Try.func31,Try.ntmps31
  go_wp2
  go_ret;exact ⟨er_,pB_ HB.out⟩
def laws_eqTree.f (k:Nat) (a b c d:Int) (e:List (S75)) (l0_5:List (S54)) (g h i j:Int) (l:List (S75)) (m:List (S54)):Option (Bool):=(laws_eqFair.f k a b c d e g h i j l).bind fun n=>(if n=true then ((laws_eqBranchS.f k l0_5 m).bind fun o=>(if o=true then (some true) else (some false))) else (some false))
theorem laws_eqTree.calls (k:Nat) (i j l m:Int) (s:Option Addr) (u:Nat) (b:List (S75)) (v:Option Addr) (x:Nat) (l0_5:List (S54)) (n o p q:Int) (y:Option Addr) (z:Nat) (c:List (S75)) (A:Option Addr) (B:Nat) (d:List (S54)) (r:Bool) (w:World) (P:Kd.C k75 w s b.length b) (T:b.length≤u) (U:Kd.C k54 w v l0_5.length l0_5) (W:l0_5.length≤x) (X:Kd.C k75 w y c.length c) (Z:c.length≤z) (aa:Kd.C k54 w A d.length d) (ab:d.length≤B) (h:laws_eqTree.f k i j l m b l0_5 n o p q c d=some r) :
  Calls Try.prog 9 #[.agg #[I L i,I L j,I L l,I L m,Y s b.length u,Y v l0_5.length x],.agg #[I L n,I L o,I L p,I L q,Y y c.length z,Y A d.length B]] w fun e w'=>e=.returned (.bool r)∧Below w.heap.size w w':=by
 have hu37:=Try.underlying37
 have hu34:=Try.underlying34
 have ai:=D P
 have aj:=D T
 clear P T
 have ak:=D U
 have al:=D W
 clear U W
 have am:=D X
 have an:=D Z
 clear X Z
 have ao:=D aa
 have ap:=D ab
 clear aa ab
 have HB:=D (Below.refl w.heap.size w)
 have H:((laws_eqFair.f k i j l m b n o p q c).bind fun E=>(if E=true then ((laws_eqBranchS.f k l0_5 d).bind fun G=>(if G=true then (some true) else (some false))) else (some false)))=some r:=h
 clear h
 obtain ⟨E,ac,H⟩:=bs_.mp H
 (try dsimp only at H)
 have A3:=D ac
 clear ac
 have ad:=D H
 clear H
 go_enter Try.func9,Try.ntmps9
 go_upto_if 10 with (first|((with_reducible refine qh_ (N:=2) rfl ?_);refine bx_ (N:=2) (cs:=#[I L i,I L j,I L l,I L m,Y s b.length u,Y v l0_5.length x]) (t:=37) ?_;intro J hg w5 hbox hb;have n_:=an_ (qd_ (pB_ HB.out) hb)<|an_ (hbox)<|an_ (bg_ hg (pB_ HB.out):w.heap.size≤J)<|D (bg_ hg (pB_ HB.out):w.heap.size≤J);clear HB;obtain ⟨HB,a,av,aw⟩:=n_;clear hb hbox hg)|((with_reducible refine qh_ (N:=3) rfl ?_);refine bx_ (N:=3) (cs:=#[I L n,I L o,I L p,I L q,Y y c.length z,Y A d.length B]) (t:=37) ?_;intro K hg w6 hbox hb;have n_:=an_ (qa_ (pk_ a.out) hb)<|an_ (qd_ (pB_ HB.out) hb)<|an_ (hbox)<|an_ (bg_ hg (pB_ HB.out):w.heap.size≤K)<|an_ (bg_ hg (pB_ HB.out):w.heap.size≤K)<|an_ (nl_ hg (pk_ a.out):J≠K)<|D (by rw [hg];exact Nat.ne_of_gt (qt_ (pk_ a.out)):K≠J);clear a HB;obtain ⟨a,HB,g,ay,az,ae,af⟩:=n_;clear hb hbox hg;(try have:=ae.out);(try have:=af.out);obtain ⟨aA,aB,aC,aD,aE,aF,aG,aH,aI,aJ,aK,aL⟩:=qm_ a.out;obtain ⟨aM,aN,aO,aP,aQ,aR,aS,aT,aU,aV,aW,aX⟩:=qm_ g.out)|((with_reducible refine qe_ (f:=30) rfl ?_);refine qp_ (some 9) rfl rfl Try.func30 (by kernel_rfl) rfl #[.agg #[I L i,I L j,I L l,I L m,Y s b.length u],.agg #[I L n,I L o,I L p,I L q,Y y c.length z]] rfl Z24 ?_;(with_reducible refine (laws_eqFair.calls k i j l m _ _ b n o p q _ _ c E _ ?side1 ?side2 ?side3 ?side4 A3.out).mono ?_);(case side1=>exact pC_ (Kd.C_below ai.out HB.out));(case side2=>exact aj.out);(case side3=>exact pC_ (Kd.C_below am.out HB.out));(case side4=>exact an.out);rintro e aY ⟨rfl,hb⟩;refine ⟨_,rfl,?_⟩;have n_:=an_ (qa_ (pk_ a.out) hb)<|an_ (qa_ (pk_ g.out) hb)<|D (qd_ (pB_ HB.out) hb);clear a g HB;obtain ⟨a,g,HB⟩:=n_;(try clear hb)))
 have H:=ad.out
 clear ad
 by_cases M:E=true
 ·subst M
  rw [if_pos rfl] at H;obtain ⟨G,ag,H⟩:=bs_.mp H;(try dsimp only at H);have ar:=D ag;clear ag;have ah:=D H;clear H;(try have:=ae.out);(try have:=af.out);obtain ⟨aZ,a0,a1,a2,a3,a4,a5,a6,a7,a8,a9,ba⟩:=qm_ a.out;obtain ⟨bb,bc,bd,be,bf,bg,bh,bi,bj,bk,bl,bm⟩:=qm_ g.out
  go_upto_if 16 with (first|((with_reducible refine qe_ (f:=31) rfl ?_);refine qp_ (some 15) rfl rfl Try.func31 (by kernel_rfl) rfl #[Y v l0_5.length x,Y A d.length B] rfl Z24 ?_;(with_reducible refine (laws_eqBranchS.calls k _ _ l0_5 _ _ d G _ ?side1 ?side2 ?side3 ?side4 ar.out).mono ?_);(case side1=>exact pC_ (Kd.C_below ak.out HB.out));(case side2=>exact al.out);(case side3=>exact pC_ (Kd.C_below ao.out HB.out));(case side4=>exact ap.out);rintro e bn ⟨rfl,hb⟩;refine ⟨_,rfl,?_⟩;have n_:=an_ (qa_ (pk_ a.out) hb)<|an_ (qa_ (pk_ g.out) hb)<|D (qd_ (pB_ HB.out) hb);clear a g HB;obtain ⟨a,g,HB⟩:=n_;(try clear hb)))
  have H:=ah.out;clear ah
  by_cases O:G=true
  ·subst O
   rw [if_pos rfl] at H;obtain rfl:=Option.some.inj H
   go_wp2
   go_ret;exact ⟨er_,pB_ HB.out⟩
  ·replace O:=Bool.eq_false_iff.mpr O
   subst O;rw [if_neg (show ¬ (false=true) by decide)] at H;obtain rfl:=Option.some.inj H
   go_wp2
   go_ret;exact ⟨er_,pB_ HB.out⟩
 ·replace M:=Bool.eq_false_iff.mpr M
  subst M;rw [if_neg (show ¬ (false=true) by decide)] at H;obtain rfl:=Option.some.inj H
  go_wp2
  go_ret;exact ⟨er_,pB_ HB.out⟩
end Go.Proofs.Ytjhgkonacdimfac.PFnExactTreeServe
