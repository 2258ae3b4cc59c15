-- by a program of this session's, over the kit's words
import Derived.Test.YtjhgkonacdimfacPZFnExactTreeServe
import Derived.Test.YtjhgkonacdimfacPFnExactTreeServex0
import Derived.Test.YtjhgkonacdimfacPFnExactTreeServex3
import Derived.Test.YtjhgkonacdimfacPFnExactTreeServex4
namespace Go.Proofs.Ytjhgkonacdimfac.PFnExactTreeServe
open Go.RowKit Go.Proofs.YtjhgkonacdimfacW.PrintWords Go.Proofs.YtjhgkonacdimfacW.PrintLast Go.Proofs.YtjhgkonacdimfacW.PrintMore Go.Proofs.YtjhgkonacdimfacV Go.Proofs.Ytjhgkonacdimfac.ZFnExactTreeServe
open Go.Value renaming int → I, slice → Y
open Go.IntKind renaming i64 → L
open Aside0 renaming mk → D
open Option renaming bind_eq_some_iff → bs_
attribute [local go_sem] qam_ qak_ qaw_ qav_ qae_ qad_ qal_ qaj_
set_option linter.unusedVariables false
set_option linter.unusedSimpArgs false
set_option maxHeartbeats 8000000
set_option maxRecDepth 100000
def spec_TreePick.j0:Nat→Bool→Int→Int→Int→Int→List (S75)→List (S54)→Option (Int×Int)
 | 0,_,_,_,_,_,_,_=>none
 | k+1,j,c,d,e,g,h,a=>if j=true then (some ((-1),(-1))) else ((spec_FairPick.f k c d e g h).bind fun i=>((spec_l20At.f k c d e g h a i).bind fun b=>(if 0≤b then (if b < (a.length:Int) then ((spec_FairPick.f k ((qc_ a b).f1.f0) ((qc_ a b).f1.f1.f0) ((qc_ a b).f1.f1.f1) ((qc_ a b).f1.f1.f2) ((qc_ a b).f1.f2)).bind fun l=>(some (i,l))) else (none)) else (none))))
def spec_TreePick.f (k:Nat) (a b c d:Int) (e:List (S75)) (l0_5:List (S54)):Option (Int×Int):=(spec_TreeOk.f k a b c d e l0_5).bind fun g=>(if g=true then ((spec_FairPick.f k a b c d e).bind fun h=>(spec_TreePick.j0 k (decide (h < 0)) a b c d e l0_5)) else (spec_TreePick.j0 k true a b c d e l0_5))
def spec_TreePick.T4:Bool×List (List Nat×List Nat):=(true,[([],[]),([],[]),([1],[1]),([],[]),([],[]),([3,4],[3,4]),([2,5],[2,5]),([6],[6]),([7],[7]),([8,5],[8]),([0,9,0],[0]),([9,10,0,1,2,3,4,5,6,7,8,9,10],[9])])
def spec_TreePick.B4:List Nat:=[0,0,2,0,0,24,62,126,254,510,1023,2047]
theorem spec_TreePick.tab4:rtab .any (opsOf Try.f16 4)=spec_TreePick.T4:=by kernel_rfl
theorem spec_TreePick.bits4:q3_ spec_TreePick.T4.2 spec_TreePick.B4=true:=by kernel_rfl
theorem spec_TreePick.calls (k:Nat) (d g i j:Int) (m:Option Addr) (o:Nat) (c:List (S75)) (r:Option Addr) (q:Nat) (l0_5:List (S54)) (v x:Int) (w:World) (aj:Kd.C k75 w m c.length c) (ak:c.length≤o) (al:Kd.C k54 w r l0_5.length l0_5) (am:l0_5.length≤q) (h:spec_TreePick.f k d g i j c l0_5=some (v,x)) :
  Calls Try.prog 16 #[.agg #[I L d,I L g,I L i,I L j,Y m c.length o,Y r l0_5.length q]] w fun e w'=>e=.returned (.tuple #[I L v,I L x])∧Below w.heap.size w w':=by
 have hu37:=Try.underlying37
 have hu34:=Try.underlying34
 have s:=D aj
 have u:=D ak
 clear aj ak
 have y:=D al
 have W:=D am
 clear al am
 have HB:=D (Below.refl w.heap.size w)
 have H:((spec_TreeOk.f k d g i j c l0_5).bind fun X=>(if X=true then ((spec_FairPick.f k d g i j c).bind fun z=>(spec_TreePick.j0 k (decide (z < 0)) d g i j c l0_5)) else (spec_TreePick.j0 k true d g i j c l0_5)))=some (v,x):=h
 clear h
 have Z:=D H
 clear H
 go_enter Try.func16,Try.ntmps16
 go_upto_region 1 with (first|((with_reducible refine qh_ (N:=1) rfl ?_);refine bx_ (N:=1) (cs:=#[I L d,I L g,I L i,I L j,Y m c.length o,Y r l0_5.length q]) (t:=37) ?_;intro p hg w3 hbox hb;have n_:=an_ (qd_ (pB_ HB.out) hb)<|an_ (hbox)<|an_ (bg_ hg (pB_ HB.out):w.heap.size≤p)<|D (bg_ hg (pB_ HB.out):w.heap.size≤p);clear HB;obtain ⟨HB,b,bk,bl⟩:=n_;clear hb hbox hg))
 (try simp only [Act.put,List.setIfInBounds_toArray,List.set_cons_zero,List.set_cons_succ])
 go_cut [13] (fun aA wc=>∃ (kq:Nat) (A:Bool),aA=.bool A∧Aside0 (spec_TreePick.j0 kq A d g i j c l0_5=some (v,x))∧Aside0 (kq≤k)∧Aside0 (wc.heap[p]?=some (.cells #[I L d,I L g,I L i,I L j,(Y m c.length o),(Y r l0_5.length q)] 37 (0,0)))∧Aside0 (Below w.heap.size w wc))
 case first =>
  have H:=Z.out;clear Z;obtain ⟨X,an,H⟩:=bs_.mp H;(try dsimp only at H);have A4:=D an;clear an
  by_cases c5:X=true
  ·subst c5
   rw [if_pos rfl] at H;obtain ⟨z,ap,H⟩:=bs_.mp H;(try dsimp only at H);have A6:=D ap;clear ap;have H':=D H;clear H;obtain ⟨aC,aD,aE,aF,aG,aH,aI,aJ,aK,aL,aM,aN⟩:=qm_ b.out
   go_wp2_with (first|((with_reducible refine qe_ (f:=14) rfl ?_);refine qp_ (some 6) rfl rfl Try.func14 (by kernel_rfl) rfl #[.agg #[I L d,I L g,I L i,I L j,Y m c.length o,Y r l0_5.length q]] rfl Z24 ?_;(with_reducible refine (spec_TreeOk.calls k d g i j _ _ c _ _ l0_5 true _ ?side1 ?side2 ?side3 ?side4 A4.out).mono ?_);(case side1=>exact pC_ (Kd.C_below s.out HB.out));(case side2=>exact u.out);(case side3=>exact pC_ (Kd.C_below y.out HB.out));(case side4=>exact W.out);rintro e w8 ⟨rfl,hb⟩;refine ⟨_,rfl,?_⟩;have n_:=an_ (qa_ (pk_ b.out) hb)<|D (qd_ (pB_ HB.out) hb);clear b HB;obtain ⟨b,HB⟩:=n_;(try clear hb);obtain ⟨aO,aP,aQ,aR,aS,aT,aU,aV,aW,aX,aY,aZ⟩:=qm_ b.out)|(go_at_call 40;(with_reducible refine (spec_FairPick.calls k d g i j _ _ c z _ ?side1 ?side2 A6.out).mono ?_);(case side1=>exact pC_ (Kd.C_below s.out HB.out));(case side2=>exact u.out);rintro e bn ⟨rfl,hb⟩;have n_:=an_ (qa_ (pk_ b.out) hb)<|D (qd_ (pB_ HB.out) hb);clear b HB;obtain ⟨b,HB⟩:=n_;(try clear hb)))
   go_meet
   case rel=>exact ⟨_,(decide (z < 0)),Z92,H',⟨by first | omega | exact Nat.le_refl _⟩,⟨pk_ b.out⟩,⟨pB_ HB.out⟩⟩
  ·replace c5:=Bool.eq_false_iff.mpr c5
   subst c5;rw [if_neg (show ¬ (false=true) by decide)] at H;have H':=D H;clear H;obtain ⟨a0,a1,a2,a3,a4,a5,a6,a7,a8,a9,ba,bb⟩:=qm_ b.out
   go_wp2_with (first|((with_reducible refine qe_ (f:=14) rfl ?_);refine qp_ (some 6) rfl rfl Try.func14 (by kernel_rfl) rfl #[.agg #[I L d,I L g,I L i,I L j,Y m c.length o,Y r l0_5.length q]] rfl Z24 ?_;(with_reducible refine (spec_TreeOk.calls k d g i j _ _ c _ _ l0_5 false _ ?side1 ?side2 ?side3 ?side4 A4.out).mono ?_);(case side1=>exact pC_ (Kd.C_below s.out HB.out));(case side2=>exact u.out);(case side3=>exact pC_ (Kd.C_below y.out HB.out));(case side4=>exact W.out);rintro e bo ⟨rfl,hb⟩;refine ⟨_,rfl,?_⟩;have n_:=an_ (qa_ (pk_ b.out) hb)<|D (qd_ (pB_ HB.out) hb);clear b HB;obtain ⟨b,HB⟩:=n_;(try clear hb)))
   go_meet
   case rel=>exact ⟨_,(true),Z92,H',⟨by first | omega | exact Nat.le_refl _⟩,⟨pk_ b.out⟩,⟨pB_ HB.out⟩⟩
 case rest =>
  clear Z
  (try clear c1);(try clear p2);(try clear c5);(try clear a0 a1 a2 a3 a4 a5 a6 a7 a8 a9 ba bb);(try clear aC aD aE aF aG aH aI aJ aK aL aM aN);(try clear aO aP aQ aR aS aT aU aV aW aX aY aZ)
  obtain ⟨kq,A,rfl,HA,bs,b,HB⟩:=hcut
  cases kq with
  | zero=>exact absurd HA.out (by simp [spec_TreePick.j0])
  | succ kj1 =>
   have H:=HA.out;clear HA;simp only [spec_TreePick.j0] at H
   by_cases B:A=true
   ·subst B
    rw [if_pos rfl] at H;simp only [Option.some.injEq,Prod.mk.injEq] at H;obtain ⟨rfl,rfl⟩:=H
    go_wp2
    go_ret2;exact ⟨er_,pB_ HB.out⟩
   ·replace B:=Bool.eq_false_iff.mpr B
    subst B;rw [if_neg (show ¬ (false=true) by decide)] at H;obtain ⟨aa,aq,H⟩:=bs_.mp H;(try dsimp only at H);have bc:=D aq;clear aq;obtain ⟨a,ar,H⟩:=bs_.mp H;(try dsimp only at H);have bd:=D ar;clear ar
    by_cases E:0≤a
    ·rw [if_pos E] at H
     have bu:decide (0≤a)=true:=decide_eq_true E;clear E
     by_cases G:a < (l0_5.length:Int)
     ·rw [if_pos G] at H
      have bv:decide (a < (l0_5.length:Int))=true:=decide_eq_true G;clear G;obtain ⟨be,au,H⟩:=bs_.mp H;(try dsimp only at H);have bf:=D au;clear au;simp only [Option.some.injEq,Prod.mk.injEq] at H;obtain ⟨rfl,rfl⟩:=H;obtain ⟨bw,bx,bA,bB,bC,bD,bE,bF,bG,bH,bI,bJ⟩:=qm_ b.out
      try go_wp2_with (first|((with_reducible refine qe_ (f:=40) rfl ?_);refine qp_ (some 16) rfl rfl Try.func40 (by kernel_rfl) rfl #[.agg #[I L d,I L g,I L i,I L j,Y m c.length o]] rfl Z24 ?_;(with_reducible refine (spec_FairPick.calls kj1 d g i j _ _ c aa _ ?side1 ?side2 bc.out).mono ?_);(case side1=>exact pC_ (Kd.C_below s.out HB.out));(case side2=>exact u.out);rintro e bg ⟨rfl,hb⟩;refine ⟨_,rfl,?_⟩;have n_:=an_ (qa_ (pk_ b.out) hb)<|D (qd_ (pB_ HB.out) hb);clear b HB;obtain ⟨b,HB⟩:=n_;(try clear hb)))
      have n_:=an_ (qi_ b.out)<|D (ql_ HB.out)
      clear b HB;obtain ⟨b,HB⟩:=n_;have ab:0≤(a:Int):=od_ Z91;have ac:a < (l0_5.length:Int):=od_ Z91;obtain ⟨l,av,aw,bh,J,M,O,P,T,U,ax,ay⟩:=qaz_ y.out a ab ac;have ad:=U;have ae:=T;have af:=P;have ag:=O;have ah:=M;have ai:=J;cases bh;replace J:=rc_ HB.out J;replace M:=rc_ HB.out M;replace O:=rc_ HB.out O;replace P:=rc_ HB.out P;replace T:=rc_ HB.out T;replace U:=rc_ HB.out U;have az:=D ay;have bi:=D ax;clear ay ax;replace ab:=eq_true ab;replace ac:=eq_true ac;refine q1_ (n:=12) (S:=fun w'=>w'.cell? ⟨p,0,none⟩=some (I L d)∧w'.cell? ⟨p,1,none⟩=some (I L g)∧w'.cell? ⟨p,2,none⟩=some (I L i)∧w'.cell? ⟨p,3,none⟩=some (I L j)∧w'.cell? ⟨p,4,none⟩=some (Y m c.length o)∧w'.cell? ⟨p,5,none⟩=some (Y (some l) l0_5.length q)∧w'.cell? (l.add ((a).toNat * 6))=some (I L ((qc_ l0_5 a).f0))∧w'.cell? ⟨(l.add ((a).toNat * 6)).block,(l.add ((a).toNat * 6)).off+1,none⟩=some (I L ((qc_ l0_5 a).f1.f0))∧w'.cell? ⟨(l.add ((a).toNat * 6)).block,(l.add ((a).toNat * 6)).off+2,none⟩=some (I L ((qc_ l0_5 a).f1.f1.f0))∧w'.cell? ⟨(l.add ((a).toNat * 6)).block,(l.add ((a).toNat * 6)).off+3,none⟩=some (I L ((qc_ l0_5 a).f1.f1.f1))∧w'.cell? ⟨(l.add ((a).toNat * 6)).block,(l.add ((a).toNat * 6)).off+4,none⟩=some (I L ((qc_ l0_5 a).f1.f1.f2))∧w'.cell? ⟨(l.add ((a).toNat * 6)).block,(l.add ((a).toNat * 6)).off+5,none⟩=some (Y av ((qc_ l0_5 a).f1.f2).length aw)) (ds:=[]) (bz 12 0) (by kernel_rfl) rfl (by kernel_rfl) (bk6_ b.out (re6_ HB.out ai ah ag af ae ad)) (fun hHeld=>?_);refine qn_ spec_TreePick.tab4 spec_TreePick.bits4 (fun HT_ HW_=>?_);generalize bg.drew=bK at b HB az J M O P T U hHeld ⊢;refine pb_ 0 ?_;refine pb_ 1 ?_;refine pb_ 4 ?_;refine tb_ 2 rfl rfl hHeld Z44 ?_;refine tb_ 3 rfl rfl hHeld Z44 ?_;refine oa_ 5 22 12 63 HT_ (fun K hK=>?_);refine goes_ Try.func17 (by kernel_rfl) rfl #[.agg #[I L d,I L g,I L i,I L j,Y m c.length o,Y (some l) l0_5.length q],I L aa] (by rfl) rfl rfl Z24 ?_
      with_reducible refine (spec_l20At.calls kj1 d g i j _ _ c _ _ l0_5 aa a _ ?side1 ?side2 ?side3 ?side4 bd.out).mono ?_
      (case side1=>exact pC_ (Kd.C_below s.out HB.out));(case side2=>exact u.out);(case side3=>exact pC_ (Kd.C_below y.out HB.out));(case side4=>exact W.out);rintro e bL ⟨rfl,hb⟩;refine ⟨_,rfl,?_⟩
      have n_:=an_ (qa_ (pk_ b.out) hb)<|D (qd_ (pB_ HB.out) hb)
      clear b HB;obtain ⟨b,HB⟩:=n_;refine hK.out _ _ (bk6_ b.out (re6_ HB.out ai ah ag af ae ad)) (fun hHeld=>?_);clear hK K;refine nx_ (N:=some 22) ?_;refine pb_ 6 ?_;refine pb_ 7 ?_;refine tb_ 8 rfl rfl hHeld Z44 ?_;refine oa_ 9 26 12 1023 HT_ (fun K hK=>?_);refine goes_ Try.func40 (by kernel_rfl) rfl #[.agg #[I L ((qc_ l0_5 a).f1.f0),I L ((qc_ l0_5 a).f1.f1.f0),I L ((qc_ l0_5 a).f1.f1.f1),I L ((qc_ l0_5 a).f1.f1.f2),Y av ((qc_ l0_5 a).f1.f2).length aw]] (by rfl) rfl rfl Z24 ?_;with_reducible refine (spec_FairPick.calls kj1 ((qc_ l0_5 a).f1.f0) ((qc_ l0_5 a).f1.f1.f0) ((qc_ l0_5 a).f1.f1.f1) ((qc_ l0_5 a).f1.f1.f2) _ _ ((qc_ l0_5 a).f1.f2) be _ ?side1 ?side2 bf.out).mono ?_
      (case side1=>exact pC_ (Kd.C_below az.out HB.out));(case side2=>exact bi.out);rintro e bM ⟨rfl,hb⟩;refine ⟨_,rfl,?_⟩
      have n_:=an_ (qa_ (pk_ b.out) hb)<|D (qd_ (pB_ HB.out) hb)
      clear b HB;obtain ⟨b,HB⟩:=n_;refine hK.out _ _ (bk6_ b.out (re6_ HB.out ai ah ag af ae ad)) (fun hHeld=>?_);clear hK K;refine nx_ (N:=some 26) ?_;refine pb_ 10 ?_;refine pb_ 11 ?_;refine done_ (qv_ HT_.out (by kernel_rfl)) ?_
      try go_wp2
      go_ret2;exact ⟨er_,pB_ HB.out⟩
     ·rw [if_neg G] at H
      exact absurd H (by simp)
    ·rw [if_neg E] at H
     exact absurd H (by simp)
def spec_l18At.l0:Nat→Int→Int→Int→Int→Int→Int→List (S75)→Option (Int)
 | 0,_,_,_,_,_,_,_=>none
 | k+1,c,a,d,e,g,h,b=>if a < (b.length:Int) then (if 0≤a then (if ((qb_ b a).f0)=c then (some a) else (spec_l18At.l0 k c (wrap64 (a+1)) d e g h b)) else (none)) else (some (-1))
def spec_l18At.f (k:Nat) (a b c d:Int) (e:List (S75)) (g:Int):Option (Int):=spec_l18At.l0 k g 0 a b c d e
theorem spec_l18At.calls (k:Nat) (d g i j:Int) (m:Option Addr) (n:Nat) (a:List (S75)) (c r:Int) (w:World) (u:Kd.C k75 w m a.length a) (v:a.length≤n) (h:spec_l18At.f k d g i j a c=some r) :
  Calls Try.prog 41 #[.agg #[I L d,I L g,I L i,I L j,Y m a.length n],I L c] w fun e w'=>e=.returned (I L r)∧Below w.heap.size w w':=by
 have hu34:=Try.underlying34
 have K:=D u
 have W:=D v
 clear u v
 have HB:=D (Below.refl w.heap.size w)
 have H:(spec_l18At.l0 k c 0 d g i j a)=some r:=h
 clear h
 have H':=D H
 clear H
 go_enter Try.func41,Try.ntmps41
 go_wp2_with (first|((with_reducible refine qh_ (N:=2) rfl ?_);refine bx_ (N:=2) (cs:=#[I L d,I L g,I L i,I L j,Y m a.length n]) (t:=34) ?_;intro o hg X hbox hb;have n_:=an_ (qd_ (pB_ HB.out) hb)<|an_ (hbox)<|an_ (bg_ hg (pB_ HB.out):w.heap.size≤o)<|D (bg_ hg (pB_ HB.out):w.heap.size≤o);clear HB;obtain ⟨HB,l,Z,aa⟩:=n_;clear hb hbox hg))
 go_loopg [5] k (fun kq M w'=>∃ (b:Int),M=I L b∧Aside0 (spec_l18At.l0 kq c b d g i j a=some r)∧Aside0 (kq≤k)∧Aside0 (w'.heap[o]?=some (.cells #[I L d,I L g,I L i,I L j,(Y m a.length n)] 34 (0,0)))∧Aside0 (Below w.heap.size w w'))
 case atStart=>exact ⟨(0),Z92,H',⟨Nat.le_refl _⟩,⟨pk_ l.out⟩,⟨pB_ HB.out⟩⟩
 case round =>
  clear H'
  try clear p2
  obtain ⟨b,rfl,HA,x,l,HB⟩:=hrel
  cases gk with
  | zero=>exact absurd HA.out (by simp [spec_l18At.l0])
  | succ O =>
   have H:=HA.out;clear HA;simp only [spec_l18At.l0] at H
   by_cases c4:b < (a.length:Int)
   ·rw [if_pos c4] at H
    have P:decide (b < (a.length:Int))=true:=decide_eq_true c4;clear c4
    by_cases c5:0≤b
    ·rw [if_pos c5] at H
     have ac:decide (0≤b)=true:=decide_eq_true c5;clear c5;have y:=D H;clear H;obtain ⟨ad,ae,af,ag,ah,ai,aj,ak,al,am⟩:=qx_ l.out;have p:0≤(b:Int):=od_ Z91;have q:b < (a.length:Int):=od_ Z91;obtain ⟨an,T,z,A,B,E,G,J⟩:=qac_ K.out b p q;cases T;replace z:=rc_ HB.out z;replace A:=rc_ HB.out A;replace B:=rc_ HB.out B;replace E:=rc_ HB.out E;replace G:=rc_ HB.out G;replace J:=rc_ HB.out J;replace p:=eq_true p;replace q:=eq_true q
     go_upto_if 20 with (fail)
     have H:=y.out;clear y
     by_cases c8:((qb_ a b).f0)=c
     ·rw [if_pos c8] at H
      have s:(((qb_ a b).f0) == c)=true:=beq_iff_eq.mpr c8;have U:(((qb_ a b).f0) != c)=false:=bne_eq_false_iff_eq.mpr c8;clear c8;refine rw_ s ?_;obtain rfl:=Option.some.inj H
      go_wp2
      go_ret;exact ⟨er_,pB_ HB.out⟩
     ·rw [if_neg c8] at H
      have s:(((qb_ a b).f0) == c)=false:=beq_eq_false_iff_ne.mpr c8;have U:(((qb_ a b).f0) != c)=true:=bne_iff_ne.mpr c8;refine rw_ s ?_;have H':=D H;clear H
      go_wp2
      go_roundg O
      case measure=>have:=x.out;omega
      case rel=>exact ⟨(wrap64 (b+1)),Z92,H',⟨by have:=x.out;omega⟩,⟨pk_ l.out⟩,⟨pB_ HB.out⟩⟩
    ·rw [if_neg c5] at H
     exact absurd H (by simp)
   ·rw [if_neg c4] at H
    have P:decide (b < (a.length:Int))=false:=decide_eq_false c4;clear c4;obtain rfl:=Option.some.inj H;obtain ⟨ao,ap,aq,ar,au,av,aw,ax,ay,az⟩:=qx_ l.out
    go_wp2
    go_ret;exact ⟨er_,pB_ HB.out⟩
def spec_l18Copy.f (c d e g:Int) (a:List (S75)):Option (Int×Int×Int×Int×(List (S75))):=(some (([]:List (S75)):List (S75))).bind fun b=>(if b.length+a.length < 2932031007402 then (some (c,d,e,g,(b ++ a))) else (none))
def spec_l18Copy.T1:Bool×List (List Nat×List Nat):=(true,[([],[]),([0],[0]),([],[]),([2],[2]),([],[]),([],[]),([5],[5]),([4,6],[4,6]),([1,3,7],[1,3,7]),([8,7,0,1,2,3,4,5,6,7,8],[8])])
def spec_l18Copy.B1:List Nat:=[0,1,0,4,0,0,32,112,255,511]
theorem spec_l18Copy.tab1:rtab .any (opsOf Try.f42 1)=spec_l18Copy.T1:=by kernel_rfl
theorem spec_l18Copy.bits1:q3_ spec_l18Copy.T1.2 spec_l18Copy.B1=true:=by kernel_rfl
theorem spec_l18Copy.calls (j k l m:Int) (E:Option Addr) (G:Nat) (c:List (S75)) (q r s u:Int) (v:List (S75)) (w:World) (O:Kd.C k75 w E c.length c) (P:c.length≤G) (h:spec_l18Copy.f j k l m c=some (q,r,s,u,v)) :
  Calls Try.prog 42 #[.agg #[I L j,I L k,I L l,I L m,Y E c.length G]] w fun e w'=>∃ T:Value,e=.returned (.agg #[I L q,I L r,I L s,I L u,T])∧Kd.R k75 75 w' w.heap.size (fun _=>True) T v∧Below w.heap.size w w':=by
 have hu34:=Try.underlying34
 have hu31:=Try.underlying31
 have Z:=D O
 have ae:=D P
 clear O P
 have HB:=D (Below.refl w.heap.size w)
 have H:((some (([]:List (S75)):List (S75))).bind fun p=>(if p.length+c.length < 2932031007402 then (some (j,k,l,m,(p ++ c))) else (none)))=some (q,r,s,u,v):=h
 clear h
 obtain ⟨p,x⟩:∃ y_:List (S75),y_=(([]:List (S75))):=⟨_,rfl⟩
 replace H:(if p.length+c.length < 2932031007402 then (some (j,k,l,m,(p ++ c))) else (none))=some (q,r,s,u,v):=by first|(rw [x];with_reducible exact H)|(have H2_:=(Option.bind_some _ _).symm.trans H;rw [x];with_reducible exact H2_)|(have H2_:=(Option.bind_some _ _).symm.trans H;with_reducible exact H2_)|with_reducible exact H|(rw [x];exact H)|exact H
 have U:=D x
 clear x
 by_cases c2:p.length+c.length < 2932031007402
 ·rw [if_pos c2] at H
  have aa:=D c2;clear c2;obtain ⟨M,y⟩:∃ y_:List (S75),y_=(p ++ c):=⟨_,rfl⟩
  replace H:(some (j,k,l,m,M))=some (q,r,s,u,v):=by first|(rw [y];with_reducible exact H)|(have H2_:=(Option.bind_some _ _).symm.trans H;rw [y];with_reducible exact H2_)|(have H2_:=(Option.bind_some _ _).symm.trans H;with_reducible exact H2_)|with_reducible exact H|(rw [y];exact H)|exact H
  have ab:=D y;clear y;simp only [Option.some.injEq,Prod.mk.injEq] at H;obtain ⟨rfl,rfl,rfl,rfl,rfl⟩:=H;go_enter Try.func42,Try.ntmps42
  try go_wp2_with (first|((with_reducible refine qh_ (N:=1) rfl ?_);refine bx_ (N:=1) (cs:=#[I L j,I L k,I L l,I L m,Y E c.length G]) (t:=34) ?_;intro o hg w3 hbox hb;have n_:=an_ (qd_ (pB_ HB.out) hb)<|an_ (hbox)<|an_ (bg_ hg (pB_ HB.out):w.heap.size≤o)<|D (bg_ hg (pB_ HB.out):w.heap.size≤o);clear HB;obtain ⟨HB,b,ag,ah⟩:=n_;clear hb hbox hg)|((with_reducible refine qh_ (N:=2) rfl ?_);refine bx_ (N:=2) (cs:=#[I L 0,I L 0,I L 0,I L 0,Y none 0 0]) (t:=34) ?_;intro d hg w4 hbox hb;have n_:=an_ (qa_ (pk_ b.out) hb)<|an_ (qd_ (pB_ HB.out) hb)<|an_ (hbox)<|an_ (bg_ hg (pB_ HB.out):w.heap.size≤d)<|an_ (bg_ hg (pB_ HB.out):w.heap.size≤d)<|an_ (nl_ hg (pk_ b.out):o≠d)<|D (by rw [hg];exact Nat.ne_of_gt (qt_ (pk_ b.out)):d≠o);clear b HB;obtain ⟨b,HB,a,ai,aj,g,z⟩:=n_;clear hb hbox hg))
  have n_:=an_ (qi_ b.out)<|an_ (qi_ a.out)<|D (ql_ HB.out)
  clear b a HB;obtain ⟨b,a,HB⟩:=n_;refine q1_ (n:=10) (S:=fun w'=>w'.cell? ⟨o,0,none⟩=some (I L j)∧w'.cell? ⟨o,1,none⟩=some (I L k)∧w'.cell? ⟨o,2,none⟩=some (I L l)∧w'.cell? ⟨o,3,none⟩=some (I L m)∧w'.cell? ⟨o,4,none⟩=some (Y E c.length G)) (ds:=[]) (bz 10 0) (by kernel_rfl) rfl (by kernel_rfl) (be5_ b.out) (fun hHeld=>?_);refine qn_ spec_l18Copy.tab1 spec_l18Copy.bits1 (fun HT_ HW_=>?_);generalize w4.drew=w5 at b a HB hHeld ⊢;refine pb_ 0 ?_;refine pb_ 2 ?_;refine pb_ 5 ?_;refine tb_ 1 rfl rfl hHeld Z88 ?_;refine tb_ 3 rfl rfl hHeld Z88 ?_;refine tb_ 6 rfl rfl hHeld Z88 ?_;refine oa_ 4 7 10 127 HT_ (fun K hK=>?_);refine Kd.R_lit_step k75 _ 75 ?hg (N:=7) ?hd (xs:=([]:List (S75))) (inner:=[]) (ok:=fun _=>True) (okp:=fun _=>True) ?hr ?hp (fun _ hk=>hk) trivial (Below.refl _ _) (Nat.le_refl _) (by simp) ?_;(case hd=>rfl);(case hg=>rfl);(case hr=>first|(go_simp;done)|(go_simp;rfl));(case hp=>exact (Reps.none _ _));intro ad w6 A hb hg_ hnew_;clear hg_ hnew_;(first|rw [← U.out] at A|(simp only [Int.reduceToNat] at A;rw [← U.out] at A))
  have n_:=an_ (Kd.R_lower A (qk_ (pB_ HB.out)))<|an_ (qa_ (pk_ b.out) hb)<|an_ (qa_ (pk_ a.out) hb)<|D (qd_ (pB_ HB.out) hb)
  clear b a HB;obtain ⟨J,b,a,HB⟩:=n_;clear hb A;refine hK.out _ _ (be5_ b.out) (fun hHeld=>?_);clear hK K;refine nx_ (N:=some 7) ?_;refine oa_ 7 10 10 255 HT_ (fun K hK=>?_);refine Kd.R_append_rows_step k75 (w0:=w) w.heap.size (by rfl) (.tmp 7) (.tmp 9) 32 75 (.agg #[(I L 0),(I L 0),(.bool false),(I L 0),(I L 0),(I L 0)]) 48 rfl Try.underlying32 info75 rfl (by decide) (by omega) ad p c _ _ _ (fun _=>True) (fun _=>False) rfl rfl ?aO ?aR (fun _ _ h=>h) (fun _ h=>h.elim) ?aF ?aB ?aS ?aL ?_;(case aR=>exact pC_ (Kd.C_below Z.out HB.out));(case aB=>exact (pB_ HB.out));(case aF=>exact (fun _ _=>trivial));(case aO=>exact (pR_ J.out));(case aS=>exact (qk_ (pB_ HB.out)));(case aL=>have:=aa.out;omega);intro am B ho hb hg hat;rw [← ab.out] at ho
  have n_:=an_ (qw_ (pk_ b.out) hg (Kd.R_ne J.out b.out (by decide)))<|an_ (qw_ (pk_ a.out) hg (Kd.R_ne J.out a.out (by decide)))<|an_ (hb)<|D (ho)
  clear b a HB J;obtain ⟨b,a,HB,W⟩:=n_;clear ho hb hg hat;obtain ⟨Ao9,co9,X⟩:=Kd.R_slice W.out;(first|subst X|obtain ⟨rfl,rfl⟩:=qag_ X);refine hK.out _ _ (be5_ b.out) (fun hHeld=>?_);clear hK K;refine nx_ (N:=some 10) ?_;refine pb_ 8 ?_;refine one_ (i:=9) (N:=none) (bz 10 1023) rfl rfl (qa4_ HT_.out (by kernel_rfl)) (by decide) (fun K hK=>?_);have an:B.cell? ⟨d,0,none⟩=some (I L 0):=bc_ a.out 0;have ao:=qj_ a.out 0;have ap:=g.out;have aq:=z.out;have ar:B.cell? ⟨d,1,none⟩=some (I L 0):=bc_ a.out 1;have au:=qj_ a.out 1;have av:=g.out;have aw:=z.out;have ax:B.cell? ⟨d,2,none⟩=some (I L 0):=bc_ a.out 2;have ay:=qj_ a.out 2;have az:=g.out;have aA:=z.out;have aC:B.cell? ⟨d,3,none⟩=some (I L 0):=bc_ a.out 3;have aD:=qj_ a.out 3;have aE:=g.out;have aG:=z.out;have aH:B.cell? ⟨d,4,none⟩=some (Y none 0 0):=bc_ a.out 4;have aI:=qj_ a.out 4;have aJ:=g.out;have aK:=z.out;refine skip_ (w1:=?_) (by rfl) rfl ?_ ?_;rotate_left
  ·go_simp
   rfl
  refine hK.out _ _ ⟨(cF_ g.out (hHeld.1)),(cF_ g.out (hHeld.2.1)),(cF_ g.out (hHeld.2.2.1)),(cF_ g.out (hHeld.2.2.2.1)),(cF_ g.out (hHeld.2.2.2.2))⟩ (fun hHeld=>?_);clear hK K;refine done_ (qv_ HT_.out (by kernel_rfl)) ?_
  try go_wp2
  refine bodyPost_ret (results_cell_row rfl _ _ d 34 #[I L j,I L k,I L l,I L m,Y Ao9 M.length co9] (0,0) _ rfl (by exact pP_ a.out) Try.underlying34 rfl (by kernel_rfl)) rfl ?_;exact ⟨_,er_,by (with_reducible repeat (first|apply Kd.R_alloc|apply Kd.R_drewN|apply Kd.R_drew));exact Kd.R_mono (fr_ (fr_ (fr_ (fr_ (fr_ (Kd.R_types W.out a.out (by decide)) 0 (I L j)) 1 (I L k)) 2 (I L l)) 3 (I L m)) 4 (Y Ao9 M.length co9)) (fun _ hk=>trivial),pB_ HB.out⟩
 ·rw [if_neg c2] at H
  exact absurd H (by simp)
def spec_VecMost.f (a b c d e g:Int):Option (Int×Int×Int):=some (mx a d,mx b e,mx c g)
theorem spec_VecMost.calls (i d b j g c l m n:Int) (w:World) (h:spec_VecMost.f i d b j g c=some (l,m,n)) :
  Calls Try.prog 43 #[.agg #[I L i,I L d,I L b],.agg #[I L j,I L g,I L c]] w fun e w'=>e=.returned (.agg #[I L l,I L m,I L n])∧Below w.heap.size w w':=by
 have hu31:=Try.underlying31
 have HB:=D (Below.refl w.heap.size w)
 have H:(some (mx i j,mx d g,mx b c))=some (l,m,n):=h
 clear h
 obtain ⟨r,hji3⟩:∃ j_:Int,(mx i j)=j_:=⟨_,rfl⟩
 replace H:(some (r,mx d g,mx b c))=some (l,m,n):=by first | (rw [hji3] at H;exact H) | (simp only [hji3] at H ⊢;exact H)
 have hji3_:(if i < j then j else i)=r:=hji3
 obtain ⟨s,hji4⟩:∃ j_:Int,(mx d g)=j_:=⟨_,rfl⟩
 replace H:(some (r,s,mx b c))=some (l,m,n):=by first | (rw [hji4] at H;exact H) | (simp only [hji4] at H ⊢;exact H)
 have hji4_:(if d < g then g else d)=s:=hji4
 obtain ⟨u,hji5⟩:∃ j_:Int,(mx b c)=j_:=⟨_,rfl⟩
 replace H:(some (r,s,u))=some (l,m,n):=by first | (rw [hji5] at H;exact H) | (simp only [hji5] at H ⊢;exact H)
 have hji5_:(if b < c then c else b)=u:=hji5
 simp only [Option.some.injEq,Prod.mk.injEq] at H
 obtain ⟨rfl,rfl,rfl⟩:=H
 go_enter Try.func43,Try.ntmps43
 go_wp2_with (first|((with_reducible refine qh_ (N:=2) rfl ?_);refine bx_ (N:=2) (cs:=#[I L i,I L d,I L b]) (t:=31) ?_;intro o hg G hbox hb;have n_:=an_ (qd_ (pB_ HB.out) hb)<|an_ (hbox)<|an_ (bg_ hg (pB_ HB.out):w.heap.size≤o)<|D (bg_ hg (pB_ HB.out):w.heap.size≤o);clear HB;obtain ⟨HB,a,J,K⟩:=n_;clear hb hbox hg)|((with_reducible refine qh_ (N:=3) rfl ?_);refine bx_ (N:=3) (cs:=#[I L j,I L g,I L c]) (t:=31) ?_;intro p hg M hbox hb;have n_:=an_ (qa_ (pk_ a.out) hb)<|an_ (qd_ (pB_ HB.out) hb)<|an_ (hbox)<|an_ (bg_ hg (pB_ HB.out):w.heap.size≤p)<|an_ (bg_ hg (pB_ HB.out):w.heap.size≤p)<|an_ (nl_ hg (pk_ a.out):o≠p)<|D (by rw [hg];exact Nat.ne_of_gt (qt_ (pk_ a.out)):p≠o);clear a HB;obtain ⟨a,HB,q,O,P,x,y⟩:=n_;clear hb hbox hg)|((with_reducible refine qh_ (N:=4) rfl ?_);refine bx_ (N:=4) (cs:=#[I L 0,I L 0,I L 0]) (t:=31) ?_;intro k hg T hbox hb;have n_:=an_ (qa_ (pk_ a.out) hb)<|an_ (qa_ (pk_ q.out) hb)<|an_ (qd_ (pB_ HB.out) hb)<|an_ (hbox)<|an_ (bg_ hg (pB_ HB.out):w.heap.size≤k)<|an_ (bg_ hg (pB_ HB.out):w.heap.size≤k)<|an_ (nl_ hg (pk_ a.out):o≠k)<|an_ (ng_ hg (pk_ a.out):k≠o)<|an_ (nl_ hg (pk_ q.out):p≠k)<|D (by rw [hg];exact Nat.ne_of_gt (qt_ (pk_ q.out)):k≠p);clear a q HB;obtain ⟨a,q,HB,v,U,W,z,A,B,E⟩:=n_;clear hb hbox hg;(try have:=x.out);(try have:=y.out);(try have:=z.out);(try have:=A.out);obtain ⟨X,Z,aa,ab,ac,ad⟩:=q0_ a.out;(try have:=B.out);(try have:=E.out);obtain ⟨ae,af,ag,ah,ai,aj⟩:=q0_ q.out;obtain ⟨ak,al,am,an,ao,ap⟩:=q0_ v.out))
 refine bodyPost_ret (results_cell_row rfl _ _ k 31 #[I L r,I L s,I L u] (0,0) _ rfl (by exact pP_ v.out) Try.underlying31 rfl (by kernel_rfl)) rfl ?_
 exact ⟨by first|rfl|(simp [qaa_,q9_] <;> rfl)|(simp only [← hji3,← hji4,← hji5];first|rfl|(simp [qaa_,q9_] <;> rfl))|(simp [*,qaa_,q9_] <;> rfl),pB_ HB.out⟩
def spec_l13List.f (a b c:Int):Option (List Int):=some (([a,b,c]:List Int))
theorem spec_l13List.calls (a b c:Int) (r:List Int) (w:World) (h:spec_l13List.f a b c=some r) :
  Calls Try.prog 66 #[.agg #[I L a,I L b,I L c]] w fun e w'=>∃ j:Value,e=.returned (j)∧Kd.R (Kd.int .i64) 3 w' w.heap.size (fun _=>True) j r∧Below w.heap.size w w':=by
 have hu31:=Try.underlying31
 have HB:=D (Below.refl w.heap.size w)
 have H:(some (([a,b,c]:List Int)))=some r:=h
 clear h
 obtain ⟨m,d⟩:∃ y_:List Int,y_=(([a,b,c]:List Int)):=⟨_,rfl⟩
 replace H:(some m)=some r:=by first|(rw [d];with_reducible exact H)|(have H2_:=(Option.bind_some _ _).symm.trans H;rw [d];with_reducible exact H2_)|(have H2_:=(Option.bind_some _ _).symm.trans H;with_reducible exact H2_)|with_reducible exact H|(rw [d];exact H)|exact H
 have k:=D d
 clear d
 obtain rfl:=Option.some.inj H
 go_enter Try.func66,Try.ntmps66
 go_wp2_with (first|((with_reducible refine qh_ (N:=1) rfl ?_);refine bx_ (N:=1) (cs:=#[I L a,I L b,I L c]) (t:=31) ?_;intro l hg o hbox hb;have n_:=an_ (qd_ (pB_ HB.out) hb)<|an_ (hbox)<|an_ (bg_ hg (pB_ HB.out):w.heap.size≤l)<|D (bg_ hg (pB_ HB.out):w.heap.size≤l);clear HB;obtain ⟨HB,i,p,q⟩:=n_;clear hb hbox hg;obtain ⟨s,u,v,x,y,z⟩:=q0_ i.out)|((with_reducible refine qh_ (N:=9) rfl ?_);refine Kd.R_lit (Kd.int .i64) _ 3 ?hg (N:=9) ?hd (xs:=([a,b,c]:List Int)) (inner:=[I L a,I L b,I L c]) (ok:=fun _=>True) (okp:=fun _=>True) ?hr ?hp (fun _ hk=>hk) trivial (Below.refl _ _) (Nat.le_refl _) (by simp) ?_;(case hd=>rfl);(case hg=>rfl);(case hr=>first|(go_simp;done)|(go_simp;rfl));(case hp=>exact (Reps.one (show Kd.M (Kd.int .i64) _ _ _ a [I L a] from rfl) (Reps.one (show Kd.M (Kd.int .i64) _ _ _ b [I L b] from rfl) (Reps.one (show Kd.M (Kd.int .i64) _ _ _ c [I L c] from rfl) (Reps.none _ _)))));intro A B g hb hg_ hnew_;clear hg_ hnew_;(first|rw [← k.out] at g|(simp only [Int.reduceToNat] at g;rw [← k.out] at g));have n_:=an_ (Kd.R_lower g (qk_ (pB_ HB.out)))<|an_ (qa_ (pk_ i.out) hb)<|D (qd_ (pB_ HB.out) hb);clear i HB;obtain ⟨n,i,HB⟩:=n_;clear hb g))
 go_ret
 exact ⟨_,er_,by (with_reducible repeat (first|apply Kd.R_alloc|apply Kd.R_drewN|apply Kd.R_drew));exact n.out,pB_ HB.out⟩
def spec_l13Of.f (l0:List Int):Option (Int×Int×Int):=if 0 < (l0.length:Int) then (if 1 < (l0.length:Int) then (if 2 < (l0.length:Int) then (some (rd l0 0,rd l0 1,rd l0 2)) else (none)) else (none)) else (none)
def spec_l13Of.T1:Bool×List (List Nat×List Nat):=(true,[([],[]),([0],[0]),([1],[1]),([],[]),([3],[3]),([4],[4]),([],[]),([6],[6]),([7],[7]),([2,5,8],[2,5,8]),([9,0,1,2,3,4,5,6,7,8,9],[9])])
def spec_l13Of.B1:List Nat:=[0,1,3,0,8,24,0,64,192,511,1023]
theorem spec_l13Of.tab1:rtab .any (opsOf Try.f67 1)=spec_l13Of.T1:=by kernel_rfl
theorem spec_l13Of.bits1:q3_ spec_l13Of.T1.2 spec_l13Of.B1=true:=by kernel_rfl
theorem spec_l13Of.calls (z:Option Addr) (A:Nat) (l0:List Int) (l m o:Int) (w:World) (B:Kd.C (Kd.int .i64) w z l0.length l0) (E:l0.length≤A) (h:spec_l13Of.f l0=some (l,m,o)) :
  Calls Try.prog 67 #[Y z l0.length A] w fun e w'=>e=.returned (.agg #[I L l,I L m,I L o])∧Below w.heap.size w w':=by
 have hu31:=Try.underlying31
 have p:=D B
 have U:=D E
 clear B E
 have HB:=D (Below.refl w.heap.size w)
 have H:(if 0 < (l0.length:Int) then (if 1 < (l0.length:Int) then (if 2 < (l0.length:Int) then (some (rd l0 0,rd l0 1,rd l0 2)) else (none)) else (none)) else (none))=some (l,m,o):=h
 clear h
 by_cases c2:0 < (l0.length:Int)
 ·rw [if_pos c2] at H
  have W:decide (0 < (l0.length:Int))=true:=decide_eq_true c2;have X:decide (0 < l0.length)=true:=decide_eq_true (by omega);clear c2
  by_cases c3:1 < (l0.length:Int)
  ·rw [if_pos c3] at H
   have Z:decide (1 < (l0.length:Int))=true:=decide_eq_true c3;have aa:decide (1 < l0.length)=true:=decide_eq_true (by omega);clear c3
   by_cases c4:2 < (l0.length:Int)
   ·rw [if_pos c4] at H
    have ab:decide (2 < (l0.length:Int))=true:=decide_eq_true c4;have ac:decide (2 < l0.length)=true:=decide_eq_true (by omega);clear c4;simp only [Option.some.injEq,Prod.mk.injEq] at H;obtain ⟨rfl,rfl,rfl⟩:=H;go_enter Try.func67,Try.ntmps67
    try go_wp2_with (first|((with_reducible refine qh_ (N:=2) rfl ?_);refine bx_ (N:=2) (cs:=#[I L 0,I L 0,I L 0]) (t:=31) ?_;intro b hg G hbox hb;have n_:=an_ (qd_ (pB_ HB.out) hb)<|an_ (hbox)<|an_ (bg_ hg (pB_ HB.out):w.heap.size≤b)<|D (bg_ hg (pB_ HB.out):w.heap.size≤b);clear HB;obtain ⟨HB,a,GW188,ad⟩:=n_;clear hb hbox hg))
    have n_:=an_ (qi_ a.out)<|D (ql_ HB.out)
    clear a HB;obtain ⟨a,HB⟩:=n_;have q:0≤(0:Int):=(by omega);have r:0 < (l0.length:Int):=od_ Z91;obtain ⟨c,J,d⟩:=Kd.at_int p.out 0 q r;have hw189_0:=d;(try rw [show ((0:Int)).toNat=0 from rfl] at hw189_0);(try rw [show 0 * 1=0 from rfl] at hw189_0);(try rw [Addr.add_zero'] at hw189_0);cases J;have qi189:(0 < l0.length)=True:=eq_true (by omega);(try rw [show ((0:Int)).toNat=0 from rfl] at d);(try rw [Addr.add_zero'] at d);replace d:=rc_ HB.out d;replace q:=eq_true q;replace r:=eq_true r;have s:0≤(1:Int):=(by omega);have u:1 < (l0.length:Int):=od_ Z91;obtain ⟨M,O,j⟩:=Kd.at_int p.out 1 s u;have hw190_0:=j;(try rw [show ((1:Int)).toNat=1 from rfl] at hw190_0);(try rw [show 1 * 1=1 from rfl] at hw190_0);(try simp only [Nat.reduceMul,Nat.reduceEqDiff,Go.Addr.add,↓reduceIte] at hw190_0);obtain rfl:c=M:=(by injection O);(try simp only [show (1:Int).toNat=1 from rfl,Nat.reduceMul,Nat.reduceEqDiff,Go.Addr.add,↓reduceIte] at j);have qi190:(1 < l0.length)=True:=eq_true (by omega);(try rw [show ((1:Int)).toNat=1 from rfl] at j);replace j:=rc_ HB.out j;replace s:=eq_true s;replace u:=eq_true u;have v:0≤(2:Int):=(by omega);have x:2 < (l0.length:Int):=od_ Z91;obtain ⟨P,T,k⟩:=Kd.at_int p.out 2 v x;have hw191_0:=k;(try rw [show ((2:Int)).toNat=2 from rfl] at hw191_0);(try rw [show 2 * 1=2 from rfl] at hw191_0);(try simp only [Nat.reduceMul,Nat.reduceEqDiff,Go.Addr.add,↓reduceIte] at hw191_0);obtain rfl:c=P:=(by injection T);(try simp only [show (2:Int).toNat=2 from rfl,Nat.reduceMul,Nat.reduceEqDiff,Go.Addr.add,↓reduceIte] at k);have qi191:(2 < l0.length)=True:=eq_true (by omega);(try rw [show ((2:Int)).toNat=2 from rfl] at k);replace k:=rc_ HB.out k;replace v:=eq_true v;replace x:=eq_true x;refine q1_ (n:=11) (S:=fun w'=>w'.cell? c=some (I L (rd l0 0))∧w'.cell? ⟨c.block,c.off+1,none⟩=some (I L (rd l0 1))∧w'.cell? ⟨c.block,c.off+2,none⟩=some (I L (rd l0 2))) (ds:=[]) (bz 11 0) (by kernel_rfl) rfl (by kernel_rfl) (re3_ HB.out hw189_0 hw190_0 hw191_0) (fun hHeld=>?_);refine qn_ spec_l13Of.tab1 spec_l13Of.bits1 (fun HT_ HW_=>?_);generalize G.drew=y at a HB d j k hHeld ⊢;refine pb_ 0 ?_;refine pb_ 1 ?_;refine pb_ 3 ?_;refine pb_ 4 ?_;refine pb_ 6 ?_;refine pb_ 7 ?_;refine tb_ 2 rfl rfl hHeld Z90 ?_;refine tb_ 5 rfl rfl hHeld Z90 ?_;refine tb_ 8 rfl rfl hHeld Z90 ?_;refine pb_ 9 ?_;refine one_ (i:=10) (N:=none) (bz 11 2047) rfl rfl (qa4_ HT_.out (by kernel_rfl)) (by decide) (fun K hK=>?_)
    have ae:y.cell? ⟨b,0,none⟩=some (I L 0):=bc_ a.out 0;have af:=qj_ a.out 0;have ag:y.cell? ⟨b,1,none⟩=some (I L 0):=bc_ a.out 1;have ah:=qj_ a.out 1;have ai:y.cell? ⟨b,2,none⟩=some (I L 0):=bc_ a.out 2;have aj:=qj_ a.out 2;refine skip_ (w1:=?_) (by rfl) rfl ?_ ?_;rotate_left
    ·go_simp
     rfl
    refine hK.out _ _ ⟨(cF_ (g:=b) Z96 (hHeld.1)),(cF_ (g:=b) Z97 (hHeld.2.1)),(cF_ (g:=b) Z98 (hHeld.2.2))⟩ (fun hHeld=>?_);clear hK K;refine done_ (qv_ HT_.out (by kernel_rfl)) ?_
    try go_wp2
    refine bodyPost_ret (results_cell_row rfl _ _ b 31 #[I L (rd l0 0),I L (rd l0 1),I L (rd l0 2)] (0,0) _ rfl (by exact pP_ a.out) Try.underlying31 rfl (by kernel_rfl)) rfl ?_;exact ⟨er_,pB_ HB.out⟩
   ·rw [if_neg c4] at H
    exact absurd H (by simp)
  ·rw [if_neg c3] at H
   exact absurd H (by simp)
 ·rw [if_neg c2] at H
  exact absurd H (by simp)
end Go.Proofs.Ytjhgkonacdimfac.PFnExactTreeServe
