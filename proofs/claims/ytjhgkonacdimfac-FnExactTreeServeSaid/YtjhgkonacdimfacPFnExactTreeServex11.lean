-- by a program of this session's, over the kit's words
import Derived.Test.YtjhgkonacdimfacPZFnExactTreeServe
import Derived.Test.YtjhgkonacdimfacPFnExactTreeServex0
import Derived.Test.YtjhgkonacdimfacPFnExactTreeServex10
namespace Go.Proofs.Ytjhgkonacdimfac.PFnExactTreeServe
open Go.RowKit Go.Proofs.YtjhgkonacdimfacW.PrintWords Go.Proofs.YtjhgkonacdimfacW.PrintLast Go.Proofs.YtjhgkonacdimfacW.PrintMore Go.Proofs.YtjhgkonacdimfacV Go.Proofs.Ytjhgkonacdimfac.ZFnExactTreeServe
open Go.Value renaming int → I, slice → Y
open Go.IntKind renaming i64 → L
open Aside0 renaming mk → D
open Option renaming bind_eq_some_iff → bs_
attribute [local go_sem] qam_ qak_ qaw_ qav_ qae_ qad_ qal_ qaj_
set_option linter.unusedVariables false
set_option linter.unusedSimpArgs false
set_option maxHeartbeats 8000000
set_option maxRecDepth 100000
def impl_isDelta.f (a:Int):Option (Bool):=(impl_within.f a 0 10000000).bind fun b=>(some b)
theorem impl_isDelta.calls (a:Int) (r:Bool) (w:World) (h:impl_isDelta.f a=some r) :
  Calls Try.prog 82 #[I L a] w fun e w'=>e=.returned (.bool r)∧Drawn0 w w':=by
 have H:((impl_within.f a 0 10000000).bind fun b=>(some b))=some r:=h
 clear h
 obtain ⟨b,c,H⟩:=bs_.mp H
 (try dsimp only at H)
 have d:=D c
 clear c
 obtain rfl:=Option.some.inj H
 go_enter Try.func82,Try.ntmps82
 go_wp2_with (first|((with_reducible refine qe_ (f:=72) rfl ?_);refine qp_ (some 4) rfl rfl Try.func72 (by kernel_rfl) rfl #[I L a,I L 0,I L 10000000] rfl Z24 ?_;(with_reducible refine (impl_within.calls a 0 10000000 b _ d.out).mono ?_);rintro e w' ⟨rfl,⟨nd,rfl⟩⟩;refine ⟨_,rfl,?_⟩))
 go_ret
 exact ⟨by first | rfl | (simp;done) | (simp [*];done),by repeat (first | exact Drawn0.refl _ | apply Drawn0.step)⟩
def impl_Narrow.f (a b c d:Int):Option (Bool):=(impl_TagOk.f a b c).bind fun e=>(if e=true then ((impl_isDelta.f d).bind fun g=>(if g=true then ((impl_VecTop.f a b c).bind fun h=>((impl_Vec_isFrom.f a b c (wrap64 (h - d)) 1000000000000).bind fun i=>(some i))) else (some false))) else (some false))
def impl_Narrow.T1:Bool×List (List Nat×List Nat):=(true,[([],[]),([0],[0]),([1,1],[1]),([2],[2]),([3,2,2],[2,3]),([2,4],[2,4]),([5,4],[5]),([6],[6]),([6],[6]),([8,6,6],[6,8]),([6],[6]),([9,10,6],[6,9,10]),([7,11,9,6],[6,7,11]),([6,12],[6,12]),([13,12,0,1,2,3,4,5,6,7,8,9,10,11,12,13],[13])])
def impl_Narrow.B1:List Nat:=[0,1,3,7,15,31,63,127,127,383,127,1919,4095,8191,16383]
theorem impl_Narrow.tab1:rtab .any (opsOf Try.f70 1)=impl_Narrow.T1:=by kernel_rfl
theorem impl_Narrow.bits1:q3_ impl_Narrow.T1.2 impl_Narrow.B1=true:=by kernel_rfl
theorem impl_Narrow.calls (b c d i:Int) (r:Bool) (w:World) (h:impl_Narrow.f b c d i=some r) :
  Calls Try.prog 70 #[.agg #[I L b,I L c,I L d],I L i] w fun e w'=>e=.returned (.bool r)∧Below w.heap.size w w':=by
 have hu31:=Try.underlying31
 have HB:=D (Below.refl w.heap.size w)
 have H:((impl_TagOk.f b c d).bind fun k=>(if k=true then ((impl_isDelta.f i).bind fun l=>(if l=true then ((impl_VecTop.f b c d).bind fun j=>((impl_Vec_isFrom.f b c d (wrap64 (j - i)) 1000000000000).bind fun m=>(some m))) else (some false))) else (some false)))=some r:=h
 clear h
 obtain ⟨k,p,H⟩:=bs_.mp H
 (try dsimp only at H)
 have o:=D p
 clear p
 by_cases c4:k=true
 ·subst c4
  rw [if_pos rfl] at H;obtain ⟨l,q,H⟩:=bs_.mp H;(try dsimp only at H);have s:=D q;clear q
  by_cases c6:l=true
  ·subst c6
   rw [if_pos rfl] at H;obtain ⟨j,u,H⟩:=bs_.mp H;(try dsimp only at H);have z:=D u;clear u;obtain ⟨m,v,H⟩:=bs_.mp H;(try dsimp only at H);have A:=D v;clear v;obtain rfl:=Option.some.inj H;go_enter Try.func70,Try.ntmps70
   try go_wp2_with (first|((with_reducible refine qh_ (N:=2) rfl ?_);refine bx_ (N:=2) (cs:=#[I L b,I L c,I L d]) (t:=31) ?_;intro g hg B hbox hb;have n_:=an_ (qd_ (pB_ HB.out) hb)<|an_ (hbox)<|an_ (bg_ hg (pB_ HB.out):w.heap.size≤g)<|D (bg_ hg (pB_ HB.out):w.heap.size≤g);clear HB;obtain ⟨HB,a,x,y⟩:=n_;clear hb hbox hg))
   have n_:=an_ (qi_ a.out)<|D (ql_ HB.out)
   clear a HB;obtain ⟨a,HB⟩:=n_;refine q1_ (n:=15) (S:=fun w'=>w'.cell? ⟨g,0,none⟩=some (I L b)∧w'.cell? ⟨g,1,none⟩=some (I L c)∧w'.cell? ⟨g,2,none⟩=some (I L d)) (ds:=[]) (bz 15 0) (by kernel_rfl) rfl (by kernel_rfl) (be3_ a.out) (fun hHeld=>?_);refine qn_ impl_Narrow.tab1 impl_Narrow.bits1 (fun HT_ HW_=>?_);generalize B.drew=J at a HB hHeld ⊢;refine tb_ 0 rfl rfl hHeld Z90 ?_;refine oa_ 1 6 15 3 HT_ (fun K hK=>?_);refine goes_ Try.func78 (by kernel_rfl) rfl #[.agg #[I L b,I L c,I L d]] (by rfl) rfl rfl Z24 ?_;with_reducible refine (impl_TagOk.calls b c d true _ o.out).mono ?_
   rintro e M ⟨rfl,hb⟩;refine ⟨_,rfl,?_⟩
   have n_:=an_ (qa_ (pk_ a.out) hb)<|D (qd_ (pB_ HB.out) hb)
   clear a HB;obtain ⟨a,HB⟩:=n_;refine hK.out _ _ (be3_ a.out) (fun hHeld=>?_);clear hK K;refine nx_ (N:=some 6) ?_;refine pb_ 2 ?_;refine pb_ 3 ?_;refine oa_ 4 9 15 31 HT_ (fun K hK=>?_);refine goes_ Try.func82 (by kernel_rfl) rfl #[I L i] (by rfl) rfl rfl Z24 ?_;with_reducible refine (impl_isDelta.calls i true _ s.out).mono ?_
   rintro e w' ⟨rfl,⟨nd,rfl⟩⟩;refine ⟨_,rfl,?_⟩;refine hK.out _ _ (be3_ a.out) (fun hHeld=>?_);clear hK K;refine nx_ (N:=some 9) ?_;refine pb_ 5 ?_;refine pb_ 6 ?_;refine pb_ 10 ?_;refine tb_ 7 rfl rfl hHeld Z90 ?_;refine tb_ 8 rfl rfl hHeld Z90 ?_;refine oa_ 9 14 15 2047 HT_ (fun K hK=>?_);refine goes_ Try.func51 (by kernel_rfl) rfl #[.agg #[I L b,I L c,I L d]] (by rfl) rfl rfl Z24 ?_;with_reducible refine (impl_VecTop.calls b c d j _ z.out).mono ?_
   rintro e O ⟨rfl,hb⟩;refine ⟨_,rfl,?_⟩
   have n_:=an_ (qa_ (pk_ a.out) hb)<|D (qd_ (pB_ HB.out) hb)
   clear a HB;obtain ⟨a,HB⟩:=n_;refine hK.out _ _ (be3_ a.out) (fun hHeld=>?_);clear hK K;refine nx_ (N:=some 14) ?_;refine pb_ 11 ?_;refine oa_ 12 17 15 8191 HT_ (fun K hK=>?_);refine goes_ Try.func50 (by kernel_rfl) rfl #[.agg #[I L b,I L c,I L d],I L (wrap64 (j - i)),I L 1000000000000] (by rfl) rfl rfl Z24 ?_;with_reducible refine (impl_Vec_isFrom.calls b c d (wrap64 (j - i)) 1000000000000 m _ A.out).mono ?_
   rintro e P ⟨rfl,hb⟩;refine ⟨_,rfl,?_⟩
   have n_:=an_ (qa_ (pk_ a.out) hb)<|D (qd_ (pB_ HB.out) hb)
   clear a HB;obtain ⟨a,HB⟩:=n_;refine hK.out _ _ (be3_ a.out) (fun hHeld=>?_);clear hK K;refine nx_ (N:=some 17) ?_;refine pb_ 13 ?_;refine pb_ 14 ?_;refine done_ (qv_ HT_.out (by kernel_rfl)) ?_
   try go_wp2
   go_ret;exact ⟨er_,pB_ HB.out⟩
  ·replace c6:=Bool.eq_false_iff.mpr c6
   subst c6;rw [if_neg (show ¬ (false=true) by decide)] at H;obtain rfl:=Option.some.inj H;go_enter Try.func70,Try.ntmps70
   try go_wp2_with (first|((with_reducible refine qh_ (N:=2) rfl ?_);refine bx_ (N:=2) (cs:=#[I L b,I L c,I L d]) (t:=31) ?_;intro g hg E hbox hb;have n_:=an_ (qd_ (pB_ HB.out) hb)<|an_ (hbox)<|an_ (bg_ hg (pB_ HB.out):w.heap.size≤g)<|D (bg_ hg (pB_ HB.out):w.heap.size≤g);clear HB;obtain ⟨HB,a,x,y⟩:=n_;clear hb hbox hg))
   have n_:=an_ (qi_ a.out)<|D (ql_ HB.out)
   clear a HB;obtain ⟨a,HB⟩:=n_;refine q1_ (n:=15) (S:=fun w'=>w'.cell? ⟨g,0,none⟩=some (I L b)∧w'.cell? ⟨g,1,none⟩=some (I L c)∧w'.cell? ⟨g,2,none⟩=some (I L d)) (ds:=[]) (bz 15 0) (by kernel_rfl) rfl (by kernel_rfl) (be3_ a.out) (fun hHeld=>?_);refine qn_ impl_Narrow.tab1 impl_Narrow.bits1 (fun HT_ HW_=>?_);generalize E.drew=T at a HB hHeld ⊢;refine tb_ 0 rfl rfl hHeld Z90 ?_;refine oa_ 1 6 15 3 HT_ (fun K hK=>?_);refine goes_ Try.func78 (by kernel_rfl) rfl #[.agg #[I L b,I L c,I L d]] (by rfl) rfl rfl Z24 ?_;with_reducible refine (impl_TagOk.calls b c d true _ o.out).mono ?_
   rintro e U ⟨rfl,hb⟩;refine ⟨_,rfl,?_⟩
   have n_:=an_ (qa_ (pk_ a.out) hb)<|D (qd_ (pB_ HB.out) hb)
   clear a HB;obtain ⟨a,HB⟩:=n_;refine hK.out _ _ (be3_ a.out) (fun hHeld=>?_);clear hK K;refine nx_ (N:=some 6) ?_;refine pb_ 2 ?_;refine pb_ 3 ?_;refine oa_ 4 9 15 31 HT_ (fun K hK=>?_);refine goes_ Try.func82 (by kernel_rfl) rfl #[I L i] (by rfl) rfl rfl Z24 ?_;with_reducible refine (impl_isDelta.calls i false _ s.out).mono ?_
   rintro e w' ⟨rfl,⟨nd,rfl⟩⟩;refine ⟨_,rfl,?_⟩;refine hK.out _ _ (be3_ a.out) (fun hHeld=>?_);clear hK K;refine nx_ (N:=some 9) ?_;refine pb_ 5 ?_;refine pb_ 6 ?_;refine ob_ 7 ?_;refine ob_ 8 ?_;refine ob_ 9 ?_;refine ob_ 10 ?_;refine ob_ 11 ?_;refine ob_ 12 ?_;refine pb_ 13 ?_;refine pb_ 14 ?_;refine done_ (qv_ HT_.out (by kernel_rfl)) ?_
   try go_wp2
   go_ret;exact ⟨er_,pB_ HB.out⟩
 ·replace c4:=Bool.eq_false_iff.mpr c4
  subst c4;rw [if_neg (show ¬ (false=true) by decide)] at H;obtain rfl:=Option.some.inj H;go_enter Try.func70,Try.ntmps70
  try go_wp2_with (first|((with_reducible refine qh_ (N:=2) rfl ?_);refine bx_ (N:=2) (cs:=#[I L b,I L c,I L d]) (t:=31) ?_;intro g hg G hbox hb;have n_:=an_ (qd_ (pB_ HB.out) hb)<|an_ (hbox)<|an_ (bg_ hg (pB_ HB.out):w.heap.size≤g)<|D (bg_ hg (pB_ HB.out):w.heap.size≤g);clear HB;obtain ⟨HB,a,x,y⟩:=n_;clear hb hbox hg))
  have n_:=an_ (qi_ a.out)<|D (ql_ HB.out)
  clear a HB;obtain ⟨a,HB⟩:=n_;refine q1_ (n:=15) (S:=fun w'=>w'.cell? ⟨g,0,none⟩=some (I L b)∧w'.cell? ⟨g,1,none⟩=some (I L c)∧w'.cell? ⟨g,2,none⟩=some (I L d)) (ds:=[]) (bz 15 0) (by kernel_rfl) rfl (by kernel_rfl) (be3_ a.out) (fun hHeld=>?_);refine qn_ impl_Narrow.tab1 impl_Narrow.bits1 (fun HT_ HW_=>?_);generalize G.drew=W at a HB hHeld ⊢;refine tb_ 0 rfl rfl hHeld Z90 ?_;refine oa_ 1 6 15 3 HT_ (fun K hK=>?_);refine goes_ Try.func78 (by kernel_rfl) rfl #[.agg #[I L b,I L c,I L d]] (by rfl) rfl rfl Z24 ?_;with_reducible refine (impl_TagOk.calls b c d false _ o.out).mono ?_
  rintro e X ⟨rfl,hb⟩;refine ⟨_,rfl,?_⟩
  have n_:=an_ (qa_ (pk_ a.out) hb)<|D (qd_ (pB_ HB.out) hb)
  clear a HB;obtain ⟨a,HB⟩:=n_;refine hK.out _ _ (be3_ a.out) (fun hHeld=>?_);clear hK K;refine nx_ (N:=some 6) ?_;refine pb_ 2 ?_;refine ob_ 3 ?_;refine ob_ 4 ?_;refine pb_ 5 ?_;refine pb_ 6 ?_;refine ob_ 7 ?_;refine ob_ 8 ?_;refine ob_ 9 ?_;refine ob_ 10 ?_;refine ob_ 11 ?_;refine ob_ 12 ?_;refine pb_ 13 ?_;refine pb_ 14 ?_;refine done_ (qv_ HT_.out (by kernel_rfl)) ?_
  try go_wp2
  go_ret;exact ⟨er_,pB_ HB.out⟩
def impl_isWeight.f (a:Int):Option (Bool):=(impl_within.f a 1 10).bind fun b=>(some b)
theorem impl_isWeight.calls (a:Int) (r:Bool) (w:World) (h:impl_isWeight.f a=some r) :
  Calls Try.prog 79 #[I L a] w fun e w'=>e=.returned (.bool r)∧Drawn0 w w':=by
 have H:((impl_within.f a 1 10).bind fun b=>(some b))=some r:=h
 clear h
 obtain ⟨b,c,H⟩:=bs_.mp H
 (try dsimp only at H)
 have d:=D c
 clear c
 obtain rfl:=Option.some.inj H
 go_enter Try.func79,Try.ntmps79
 go_wp2_with (first|((with_reducible refine qe_ (f:=72) rfl ?_);refine qp_ (some 4) rfl rfl Try.func72 (by kernel_rfl) rfl #[I L a,I L 1,I L 10] rfl Z24 ?_;(with_reducible refine (impl_within.calls a 1 10 b _ d.out).mono ?_);rintro e w' ⟨rfl,⟨nd,rfl⟩⟩;refine ⟨_,rfl,?_⟩))
 go_ret
 exact ⟨by first | rfl | (simp;done) | (simp [*];done),by repeat (first | exact Drawn0.refl _ | apply Drawn0.step)⟩
def impl_Stride.f (a:Int):Option (Int):=(impl_isWeight.f a).bind fun b=>(if b=true then (if a=0 then (none) else (some (wrap64 (Int.tdiv (2520:Int) a)))) else (some 0))
theorem impl_Stride.calls (a r:Int) (w:World) (h:impl_Stride.f a=some r) :
  Calls Try.prog 81 #[I L a] w fun e w'=>e=.returned (I L r)∧Drawn0 w w':=by
 have H:((impl_isWeight.f a).bind fun b=>(if b=true then (if a=0 then (none) else (some (wrap64 (Int.tdiv (2520:Int) a)))) else (some 0)))=some r:=h
 clear h
 obtain ⟨b,c,H⟩:=bs_.mp H
 (try dsimp only at H)
 have g:=D c
 clear c
 have d:=D H
 clear H
 go_enter Try.func81,Try.ntmps81
 go_upto_if 5 with (first|((with_reducible refine qe_ (f:=79) rfl ?_);refine qp_ (some 4) rfl rfl Try.func79 (by kernel_rfl) rfl #[I L a] rfl Z24 ?_;(with_reducible refine (impl_isWeight.calls a b _ g.out).mono ?_);rintro e w' ⟨rfl,⟨nd,rfl⟩⟩;refine ⟨_,rfl,?_⟩))
 have H:=d.out
 clear d
 by_cases c4:b=true
 ·subst c4
  rw [if_pos rfl] at H
  by_cases c5:a=0
  ·rw [if_pos c5] at H
   exact absurd H (by simp)
  ·rw [if_neg c5] at H
   have i:(a == 0)=false:=beq_eq_false_iff_ne.mpr c5;have j:(a != 0)=true:=bne_iff_ne.mpr c5;refine rw_ i ?_;obtain rfl:=Option.some.inj H
   go_wp2
   go_ret;exact ⟨by first | rfl | (simp;done) | (simp [*];done),by repeat (first | exact Drawn0.refl _ | apply Drawn0.step)⟩
 ·replace c4:=Bool.eq_false_iff.mpr c4
  subst c4;rw [if_neg (show ¬ (false=true) by decide)] at H;obtain rfl:=Option.some.inj H
  go_wp2
  go_ret;exact ⟨by first | rfl | (simp;done) | (simp [*];done),by repeat (first | exact Drawn0.refl _ | apply Drawn0.step)⟩
def impl_isFlow.f (a:Int):Option (Bool):=(impl_within.f a 0 9999).bind fun b=>(some b)
theorem impl_isFlow.calls (a:Int) (r:Bool) (w:World) (h:impl_isFlow.f a=some r) :
  Calls Try.prog 86 #[I L a] w fun e w'=>e=.returned (.bool r)∧Drawn0 w w':=by
 have H:((impl_within.f a 0 9999).bind fun b=>(some b))=some r:=h
 clear h
 obtain ⟨b,c,H⟩:=bs_.mp H
 (try dsimp only at H)
 have d:=D c
 clear c
 obtain rfl:=Option.some.inj H
 go_enter Try.func86,Try.ntmps86
 go_wp2_with (first|((with_reducible refine qe_ (f:=72) rfl ?_);refine qp_ (some 4) rfl rfl Try.func72 (by kernel_rfl) rfl #[I L a,I L 0,I L 9999] rfl Z24 ?_;(with_reducible refine (impl_within.calls a 0 9999 b _ d.out).mono ?_);rintro e w' ⟨rfl,⟨nd,rfl⟩⟩;refine ⟨_,rfl,?_⟩))
 go_ret
 exact ⟨by first | rfl | (simp;done) | (simp [*];done),by repeat (first | exact Drawn0.refl _ | apply Drawn0.step)⟩
def impl_Fair_kidOk.f (h i j k:Int) (r:List (S75)) (l a:Int) (m:Bool) (b c d:Int):Option (Bool):=(impl_VecTop.f i j k).bind fun e=>((impl_VecTop.f b c d).bind fun g=>((impl_isFlow.f l).bind fun n=>(if n=true then ((impl_isWeight.f a).bind fun o=>(if o=true then ((impl_Narrow.f b c d h).bind fun p=>(if p=true then ((impl_Stride.f a).bind fun q=>(if g≤(wrap64 (e+(wrap64 (q * 2000)))) then (if m=true then (some (decide (g ≥ e))) else (some true)) else (some false))) else (some false))) else (some false))) else (some false))))
def impl_Fair_kidOk.T1:Bool×List (List Nat×List Nat):=(true,[([],[]),([0],[0]),([1],[1]),([],[]),([3],[3]),([4,2],[4]),([2,5,0,1,2],[2]),([5,6,0,1,2,3,4,5,6],[5])])
def impl_Fair_kidOk.B1:List Nat:=[0,1,3,0,8,31,63,127]
theorem impl_Fair_kidOk.tab1:rtab .any (opsOf Try.f71 1)=impl_Fair_kidOk.T1:=by kernel_rfl
theorem impl_Fair_kidOk.bits1:q3_ impl_Fair_kidOk.T1.2 impl_Fair_kidOk.B1=true:=by kernel_rfl
theorem impl_Fair_kidOk.calls (m g i j:Int) (p:Option Addr) (q:Nat) (l:List (S75)) (k a:Int) (o:Bool) (b c d:Int) (r:Bool) (w:World) (E:Kd.C k75 w p l.length l) (G:l.length≤q) (h:impl_Fair_kidOk.f m g i j l k a o b c d=some r) :
  Calls Try.prog 71 #[.agg #[I L m,I L g,I L i,I L j,Y p l.length q],.agg #[I L k,I L a,.bool o,I L b,I L c,I L d]] w fun e w'=>e=.returned (.bool r)∧Below w.heap.size w w':=by
 have hu34:=Try.underlying34
 have hu75:=Try.underlying75
 have hu31:=Try.underlying31
 have ad:=D E
 have ae:=D G
 clear E G
 have HB:=D (Below.refl w.heap.size w)
 have H:((impl_VecTop.f g i j).bind fun Ua=>((impl_VecTop.f b c d).bind fun Xa=>((impl_isFlow.f k).bind fun Ub=>(if Ub=true then ((impl_isWeight.f a).bind fun Xb=>(if Xb=true then ((impl_Narrow.f b c d m).bind fun Ob=>(if Ob=true then ((impl_Stride.f a).bind fun Jb=>(if Xa≤(wrap64 (Ua+(wrap64 (Jb * 2000)))) then (if o=true then (some (decide (Xa ≥ Ua))) else (some true)) else (some false))) else (some false))) else (some false))) else (some false)))))=some r:=h
 clear h
 obtain ⟨Ua,J,H⟩:=bs_.mp H
 (try dsimp only at H)
 have x:=D J
 clear J
 obtain ⟨Xa,M,H⟩:=bs_.mp H
 (try dsimp only at H)
 have y:=D M
 clear M
 obtain ⟨Ub,O,H⟩:=bs_.mp H
 (try dsimp only at H)
 have z:=D O
 clear O
 by_cases c6:Ub=true
 ·subst c6
  rw [if_pos rfl] at H;obtain ⟨Xb,P,H⟩:=bs_.mp H;(try dsimp only at H);have T:=D P;clear P
  by_cases c8:Xb=true
  ·subst c8
   rw [if_pos rfl] at H;obtain ⟨Ob,U,H⟩:=bs_.mp H;(try dsimp only at H);have Z:=D U;clear U;have W:=D H;clear H;go_enter Try.func71,Try.ntmps71
   try go_wp2_with (first|((with_reducible refine qh_ (N:=2) rfl ?_);refine bx_ (N:=2) (cs:=#[I L m,I L g,I L i,I L j,Y p l.length q]) (t:=34) ?_;intro Ma hg af hbox hb;have n_:=an_ (qd_ (pB_ HB.out) hb)<|an_ (hbox)<|an_ (bg_ hg (pB_ HB.out):w.heap.size≤Ma)<|D (bg_ hg (pB_ HB.out):w.heap.size≤Ma);clear HB;obtain ⟨HB,Ja,Jc,Kc⟩:=n_;clear hb hbox hg)|((with_reducible refine qh_ (N:=3) rfl ?_);refine bx_ (N:=3) (cs:=#[I L k,I L a,.bool o,I L b,I L c,I L d]) (t:=75) ?_;intro Oa hg aa hbox hb;have n_:=an_ (qa_ (pk_ Ja.out) hb)<|an_ (qd_ (pB_ HB.out) hb)<|an_ (hbox)<|an_ (bg_ hg (pB_ HB.out):w.heap.size≤Oa)<|an_ (bg_ hg (pB_ HB.out):w.heap.size≤Oa)<|an_ (nl_ hg (pk_ Ja.out):Ma≠Oa)<|D (by rw [hg];exact Nat.ne_of_gt (qt_ (pk_ Ja.out)):Oa≠Ma);clear Ja HB;obtain ⟨Ja,HB,Ka,Mc,Oc,Kb,Mb⟩:=n_;clear hb hbox hg))
   have n_:=an_ (qi_ Ja.out)<|an_ (qi_ Ka.out)<|D (ql_ HB.out)
   clear Ja Ka HB;obtain ⟨Ja,Ka,HB⟩:=n_;refine q1_ (n:=8) (S:=fun w'=>w'.cell? ⟨Ma,0,none⟩=some (I L m)∧w'.cell? ⟨Ma,1,none⟩=some (I L g)∧w'.cell? ⟨Ma,2,none⟩=some (I L i)∧w'.cell? ⟨Ma,3,none⟩=some (I L j)∧w'.cell? ⟨Ma,4,none⟩=some (Y p l.length q)∧w'.cell? ⟨Oa,0,none⟩=some (I L k)∧w'.cell? ⟨Oa,1,none⟩=some (I L a)∧w'.cell? ⟨Oa,2,none⟩=some (.bool o)∧w'.cell? ⟨Oa,3,none⟩=some (I L b)∧w'.cell? ⟨Oa,4,none⟩=some (I L c)∧w'.cell? ⟨Oa,5,none⟩=some (I L d)) (ds:=[]) (bz 8 0) (by kernel_rfl) rfl (by kernel_rfl) (bk5_ Ja.out (be6_ Ka.out)) (fun hHeld=>?_);refine qn_ impl_Fair_kidOk.tab1 impl_Fair_kidOk.bits1 (fun HT_ HW_=>?_);generalize aa.drew=ag at Ja Ka HB hHeld ⊢;refine pb_ 0 ?_;refine pb_ 3 ?_;refine tb_ 1 rfl rfl hHeld Z85 ?_;refine tb_ 4 rfl rfl hHeld Z85 ?_;refine oa_ 2 9 8 31 HT_ (fun K hK=>?_);refine goes_ Try.func51 (by kernel_rfl) rfl #[.agg #[I L g,I L i,I L j]] (by rfl) rfl rfl Z24 ?_;with_reducible refine (impl_VecTop.calls g i j Ua _ x.out).mono ?_
   rintro e ah ⟨rfl,hb⟩;refine ⟨_,rfl,?_⟩
   have n_:=an_ (qa_ (pk_ Ja.out) hb)<|an_ (qa_ (pk_ Ka.out) hb)<|D (qd_ (pB_ HB.out) hb)
   clear Ja Ka HB;obtain ⟨Ja,Ka,HB⟩:=n_;refine hK.out _ _ (bk5_ Ja.out (be6_ Ka.out)) (fun hHeld=>?_);clear hK K;refine nx_ (N:=some 9) ?_;refine oa_ 5 12 8 63 HT_ (fun K hK=>?_);refine goes_ Try.func51 (by kernel_rfl) rfl #[.agg #[I L b,I L c,I L d]] (by rfl) rfl rfl Z24 ?_;with_reducible refine (impl_VecTop.calls b c d Xa _ y.out).mono ?_
   rintro e ai ⟨rfl,hb⟩;refine ⟨_,rfl,?_⟩
   have n_:=an_ (qa_ (pk_ Ja.out) hb)<|an_ (qa_ (pk_ Ka.out) hb)<|D (qd_ (pB_ HB.out) hb)
   clear Ja Ka HB;obtain ⟨Ja,Ka,HB⟩:=n_;refine hK.out _ _ (bk5_ Ja.out (be6_ Ka.out)) (fun hHeld=>?_);clear hK K;refine nx_ (N:=some 12) ?_;refine pb_ 6 ?_;refine pb_ 7 ?_;refine done_ (qv_ HT_.out (by kernel_rfl)) ?_;(try have:=Mb.out);(try have:=Kb.out);obtain ⟨Uc,Xc,Jd,Md,Od,Ud,Xd,Je,Ke,Me,Oe,Ue⟩:=qm_ Ka.out
   go_upto_if 30 with (first|((with_reducible refine qe_ (f:=86) rfl ?_);refine qp_ (some 15) rfl rfl Try.func86 (by kernel_rfl) rfl #[I L k] rfl Z24 ?_;(with_reducible refine (impl_isFlow.calls k true _ z.out).mono ?_);rintro e w' ⟨rfl,⟨nd,rfl⟩⟩;refine ⟨_,rfl,?_⟩)|(go_at_call 79;(with_reducible refine (impl_isWeight.calls a true _ T.out).mono ?_);rintro e w' ⟨rfl,⟨nd,rfl⟩⟩;obtain ⟨Xe,Jf,Kf,Mf,Of,Uf,Xf,Jg,Kg,Mg⟩:=qx_ Ja.out)|(go_at_call 70;(with_reducible refine (impl_Narrow.calls b c d m Ob _ Z.out).mono ?_);rintro e aj ⟨rfl,hb⟩;have n_:=an_ (qa_ (pk_ Ja.out) hb)<|an_ (qa_ (pk_ Ka.out) hb)<|D (qd_ (pB_ HB.out) hb);clear Ja Ka HB;obtain ⟨Ja,Ka,HB⟩:=n_;(try clear hb)))
   have H:=W.out;clear W
   by_cases u:Ob=true
   ·subst u
    rw [if_pos rfl] at H;obtain ⟨Jb,X,H⟩:=bs_.mp H;(try dsimp only at H);have A:=D X;clear X
    by_cases s:Xa≤(wrap64 (Ua+(wrap64 (Jb * 2000))))
    ·rw [if_pos s] at H
     have B:decide (Xa≤(wrap64 (Ua+(wrap64 (Jb * 2000)))))=true:=decide_eq_true s;clear s;refine rw_ B ?_
     by_cases v:o=true
     ·subst v
      rw [if_pos rfl] at H;obtain rfl:=Option.some.inj H;(try have ak:=Mb.out);(try have al:=Kb.out);obtain ⟨Og,Ug,Xg,Jh,Kh,Mh,Oh,Uh,Xh,Ji,Ki,Mi⟩:=qm_ Ka.out
      go_wp2_with (first|((with_reducible refine qe_ (f:=81) rfl ?_);refine qp_ (some 35) rfl rfl Try.func81 (by kernel_rfl) rfl #[I L a] rfl Z24 ?_;(with_reducible refine (impl_Stride.calls a Jb _ A.out).mono ?_);rintro e w' ⟨rfl,⟨nd,rfl⟩⟩;refine ⟨_,rfl,?_⟩))
      go_ret;exact ⟨er_,pB_ HB.out⟩
     ·replace v:=Bool.eq_false_iff.mpr v
      subst v;rw [if_neg (show ¬ (false=true) by decide)] at H;obtain rfl:=Option.some.inj H;(try have:=Mb.out);(try have:=Kb.out);obtain ⟨Oi,Ui,Xi,Jj,Kj,Mj,Oj,Uj,Xj,Jk,Kk,Mk⟩:=qm_ Ka.out
      go_wp2_with (first|((with_reducible refine qe_ (f:=81) rfl ?_);refine qp_ (some 35) rfl rfl Try.func81 (by kernel_rfl) rfl #[I L a] rfl Z24 ?_;(with_reducible refine (impl_Stride.calls a Jb _ A.out).mono ?_);rintro e w' ⟨rfl,⟨nd,rfl⟩⟩;refine ⟨_,rfl,?_⟩))
      go_ret;exact ⟨er_,pB_ HB.out⟩
    ·rw [if_neg s] at H
     have B:decide (Xa≤(wrap64 (Ua+(wrap64 (Jb * 2000)))))=false:=decide_eq_false s;clear s;refine rw_ B ?_;obtain rfl:=Option.some.inj H;(try have:=Mb.out);(try have:=Kb.out);obtain ⟨Ok,Uk,Xk,Jm,Km,Mm,Om,Um,Xm,Jn,Kn,Mn⟩:=qm_ Ka.out
     go_wp2_with (first|((with_reducible refine qe_ (f:=81) rfl ?_);refine qp_ (some 35) rfl rfl Try.func81 (by kernel_rfl) rfl #[I L a] rfl Z24 ?_;(with_reducible refine (impl_Stride.calls a Jb _ A.out).mono ?_);rintro e w' ⟨rfl,⟨nd,rfl⟩⟩;refine ⟨_,rfl,?_⟩))
     go_ret;exact ⟨er_,pB_ HB.out⟩
   ·replace u:=Bool.eq_false_iff.mpr u
    subst u;rw [if_neg (show ¬ (false=true) by decide)] at H;obtain rfl:=Option.some.inj H
    go_wp2
    go_ret;exact ⟨er_,pB_ HB.out⟩
  ·replace c8:=Bool.eq_false_iff.mpr c8
   subst c8;rw [if_neg (show ¬ (false=true) by decide)] at H;obtain rfl:=Option.some.inj H;go_enter Try.func71,Try.ntmps71
   try go_wp2_with (first|((with_reducible refine qh_ (N:=2) rfl ?_);refine bx_ (N:=2) (cs:=#[I L m,I L g,I L i,I L j,Y p l.length q]) (t:=34) ?_;intro Ma hg am hbox hb;have n_:=an_ (qd_ (pB_ HB.out) hb)<|an_ (hbox)<|an_ (bg_ hg (pB_ HB.out):w.heap.size≤Ma)<|D (bg_ hg (pB_ HB.out):w.heap.size≤Ma);clear HB;obtain ⟨HB,Ja,Jc,Kc⟩:=n_;clear hb hbox hg)|((with_reducible refine qh_ (N:=3) rfl ?_);refine bx_ (N:=3) (cs:=#[I L k,I L a,.bool o,I L b,I L c,I L d]) (t:=75) ?_;intro Oa hg ab hbox hb;have n_:=an_ (qa_ (pk_ Ja.out) hb)<|an_ (qd_ (pB_ HB.out) hb)<|an_ (hbox)<|an_ (bg_ hg (pB_ HB.out):w.heap.size≤Oa)<|an_ (bg_ hg (pB_ HB.out):w.heap.size≤Oa)<|an_ (nl_ hg (pk_ Ja.out):Ma≠Oa)<|D (by rw [hg];exact Nat.ne_of_gt (qt_ (pk_ Ja.out)):Oa≠Ma);clear Ja HB;obtain ⟨Ja,HB,Ka,Mc,Oc,Kb,Mb⟩:=n_;clear hb hbox hg))
   have n_:=an_ (qi_ Ja.out)<|an_ (qi_ Ka.out)<|D (ql_ HB.out)
   clear Ja Ka HB;obtain ⟨Ja,Ka,HB⟩:=n_;refine q1_ (n:=8) (S:=fun w'=>w'.cell? ⟨Ma,0,none⟩=some (I L m)∧w'.cell? ⟨Ma,1,none⟩=some (I L g)∧w'.cell? ⟨Ma,2,none⟩=some (I L i)∧w'.cell? ⟨Ma,3,none⟩=some (I L j)∧w'.cell? ⟨Ma,4,none⟩=some (Y p l.length q)∧w'.cell? ⟨Oa,0,none⟩=some (I L k)∧w'.cell? ⟨Oa,1,none⟩=some (I L a)∧w'.cell? ⟨Oa,2,none⟩=some (.bool o)∧w'.cell? ⟨Oa,3,none⟩=some (I L b)∧w'.cell? ⟨Oa,4,none⟩=some (I L c)∧w'.cell? ⟨Oa,5,none⟩=some (I L d)) (ds:=[]) (bz 8 0) (by kernel_rfl) rfl (by kernel_rfl) (bk5_ Ja.out (be6_ Ka.out)) (fun hHeld=>?_);refine qn_ impl_Fair_kidOk.tab1 impl_Fair_kidOk.bits1 (fun HT_ HW_=>?_);generalize ab.drew=an at Ja Ka HB hHeld ⊢;refine pb_ 0 ?_;refine pb_ 3 ?_;refine tb_ 1 rfl rfl hHeld Z85 ?_;refine tb_ 4 rfl rfl hHeld Z85 ?_;refine oa_ 2 9 8 31 HT_ (fun K hK=>?_);refine goes_ Try.func51 (by kernel_rfl) rfl #[.agg #[I L g,I L i,I L j]] (by rfl) rfl rfl Z24 ?_;with_reducible refine (impl_VecTop.calls g i j Ua _ x.out).mono ?_
   rintro e ao ⟨rfl,hb⟩;refine ⟨_,rfl,?_⟩
   have n_:=an_ (qa_ (pk_ Ja.out) hb)<|an_ (qa_ (pk_ Ka.out) hb)<|D (qd_ (pB_ HB.out) hb)
   clear Ja Ka HB;obtain ⟨Ja,Ka,HB⟩:=n_;refine hK.out _ _ (bk5_ Ja.out (be6_ Ka.out)) (fun hHeld=>?_);clear hK K;refine nx_ (N:=some 9) ?_;refine oa_ 5 12 8 63 HT_ (fun K hK=>?_);refine goes_ Try.func51 (by kernel_rfl) rfl #[.agg #[I L b,I L c,I L d]] (by rfl) rfl rfl Z24 ?_;with_reducible refine (impl_VecTop.calls b c d Xa _ y.out).mono ?_
   rintro e ap ⟨rfl,hb⟩;refine ⟨_,rfl,?_⟩
   have n_:=an_ (qa_ (pk_ Ja.out) hb)<|an_ (qa_ (pk_ Ka.out) hb)<|D (qd_ (pB_ HB.out) hb)
   clear Ja Ka HB;obtain ⟨Ja,Ka,HB⟩:=n_;refine hK.out _ _ (bk5_ Ja.out (be6_ Ka.out)) (fun hHeld=>?_);clear hK K;refine nx_ (N:=some 12) ?_;refine pb_ 6 ?_;refine pb_ 7 ?_;refine done_ (qv_ HT_.out (by kernel_rfl)) ?_;(try have:=Mb.out);(try have:=Kb.out);obtain ⟨On,Un,Xn,Jo,Ko,Mo,Oo,Uo,Xo,Jp,Kp,Mp⟩:=qm_ Ka.out
   try go_wp2_with (first|((with_reducible refine qe_ (f:=86) rfl ?_);refine qp_ (some 15) rfl rfl Try.func86 (by kernel_rfl) rfl #[I L k] rfl Z24 ?_;(with_reducible refine (impl_isFlow.calls k true _ z.out).mono ?_);rintro e w' ⟨rfl,⟨nd,rfl⟩⟩;refine ⟨_,rfl,?_⟩)|(go_at_call 79;(with_reducible refine (impl_isWeight.calls a false _ T.out).mono ?_);rintro e w' ⟨rfl,⟨nd,rfl⟩⟩))
   go_ret;exact ⟨er_,pB_ HB.out⟩
 ·replace c6:=Bool.eq_false_iff.mpr c6
  subst c6;rw [if_neg (show ¬ (false=true) by decide)] at H;obtain rfl:=Option.some.inj H;go_enter Try.func71,Try.ntmps71
  try go_wp2_with (first|((with_reducible refine qh_ (N:=2) rfl ?_);refine bx_ (N:=2) (cs:=#[I L m,I L g,I L i,I L j,Y p l.length q]) (t:=34) ?_;intro Ma hg aq hbox hb;have n_:=an_ (qd_ (pB_ HB.out) hb)<|an_ (hbox)<|an_ (bg_ hg (pB_ HB.out):w.heap.size≤Ma)<|D (bg_ hg (pB_ HB.out):w.heap.size≤Ma);clear HB;obtain ⟨HB,Ja,Jc,Kc⟩:=n_;clear hb hbox hg)|((with_reducible refine qh_ (N:=3) rfl ?_);refine bx_ (N:=3) (cs:=#[I L k,I L a,.bool o,I L b,I L c,I L d]) (t:=75) ?_;intro Oa hg ac hbox hb;have n_:=an_ (qa_ (pk_ Ja.out) hb)<|an_ (qd_ (pB_ HB.out) hb)<|an_ (hbox)<|an_ (bg_ hg (pB_ HB.out):w.heap.size≤Oa)<|an_ (bg_ hg (pB_ HB.out):w.heap.size≤Oa)<|an_ (nl_ hg (pk_ Ja.out):Ma≠Oa)<|D (by rw [hg];exact Nat.ne_of_gt (qt_ (pk_ Ja.out)):Oa≠Ma);clear Ja HB;obtain ⟨Ja,HB,Ka,Mc,Oc,Kb,Mb⟩:=n_;clear hb hbox hg))
  have n_:=an_ (qi_ Ja.out)<|an_ (qi_ Ka.out)<|D (ql_ HB.out)
  clear Ja Ka HB;obtain ⟨Ja,Ka,HB⟩:=n_;refine q1_ (n:=8) (S:=fun w'=>w'.cell? ⟨Ma,0,none⟩=some (I L m)∧w'.cell? ⟨Ma,1,none⟩=some (I L g)∧w'.cell? ⟨Ma,2,none⟩=some (I L i)∧w'.cell? ⟨Ma,3,none⟩=some (I L j)∧w'.cell? ⟨Ma,4,none⟩=some (Y p l.length q)∧w'.cell? ⟨Oa,0,none⟩=some (I L k)∧w'.cell? ⟨Oa,1,none⟩=some (I L a)∧w'.cell? ⟨Oa,2,none⟩=some (.bool o)∧w'.cell? ⟨Oa,3,none⟩=some (I L b)∧w'.cell? ⟨Oa,4,none⟩=some (I L c)∧w'.cell? ⟨Oa,5,none⟩=some (I L d)) (ds:=[]) (bz 8 0) (by kernel_rfl) rfl (by kernel_rfl) (bk5_ Ja.out (be6_ Ka.out)) (fun hHeld=>?_);refine qn_ impl_Fair_kidOk.tab1 impl_Fair_kidOk.bits1 (fun HT_ HW_=>?_);generalize ac.drew=ar at Ja Ka HB hHeld ⊢;refine pb_ 0 ?_;refine pb_ 3 ?_;refine tb_ 1 rfl rfl hHeld Z85 ?_;refine tb_ 4 rfl rfl hHeld Z85 ?_;refine oa_ 2 9 8 31 HT_ (fun K hK=>?_);refine goes_ Try.func51 (by kernel_rfl) rfl #[.agg #[I L g,I L i,I L j]] (by rfl) rfl rfl Z24 ?_;with_reducible refine (impl_VecTop.calls g i j Ua _ x.out).mono ?_
  rintro e au ⟨rfl,hb⟩;refine ⟨_,rfl,?_⟩
  have n_:=an_ (qa_ (pk_ Ja.out) hb)<|an_ (qa_ (pk_ Ka.out) hb)<|D (qd_ (pB_ HB.out) hb)
  clear Ja Ka HB;obtain ⟨Ja,Ka,HB⟩:=n_;refine hK.out _ _ (bk5_ Ja.out (be6_ Ka.out)) (fun hHeld=>?_);clear hK K;refine nx_ (N:=some 9) ?_;refine oa_ 5 12 8 63 HT_ (fun K hK=>?_);refine goes_ Try.func51 (by kernel_rfl) rfl #[.agg #[I L b,I L c,I L d]] (by rfl) rfl rfl Z24 ?_;with_reducible refine (impl_VecTop.calls b c d Xa _ y.out).mono ?_
  rintro e av ⟨rfl,hb⟩;refine ⟨_,rfl,?_⟩
  have n_:=an_ (qa_ (pk_ Ja.out) hb)<|an_ (qa_ (pk_ Ka.out) hb)<|D (qd_ (pB_ HB.out) hb)
  clear Ja Ka HB;obtain ⟨Ja,Ka,HB⟩:=n_;refine hK.out _ _ (bk5_ Ja.out (be6_ Ka.out)) (fun hHeld=>?_);clear hK K;refine nx_ (N:=some 12) ?_;refine pb_ 6 ?_;refine pb_ 7 ?_;refine done_ (qv_ HT_.out (by kernel_rfl)) ?_;(try have:=Mb.out);(try have:=Kb.out);obtain ⟨Op,Up,Xp,Jq,Kq,Mq,Oq,Uq,Xq,Jr,Kr,Mr⟩:=qm_ Ka.out
  try go_wp2_with (first|((with_reducible refine qe_ (f:=86) rfl ?_);refine qp_ (some 15) rfl rfl Try.func86 (by kernel_rfl) rfl #[I L k] rfl Z24 ?_;(with_reducible refine (impl_isFlow.calls k false _ z.out).mono ?_);rintro e w' ⟨rfl,⟨nd,rfl⟩⟩;refine ⟨_,rfl,?_⟩))
  go_ret;exact ⟨er_,pB_ HB.out⟩
end Go.Proofs.Ytjhgkonacdimfac.PFnExactTreeServe
