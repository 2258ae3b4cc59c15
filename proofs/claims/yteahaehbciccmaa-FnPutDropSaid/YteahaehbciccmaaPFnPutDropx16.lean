-- by a program of this session's, over the kit's words
import Derived.Test.YteahaehbciccmaaPZFnPutDrop
import Derived.Test.YteahaehbciccmaaPFnPutDropx0
import Derived.Test.YteahaehbciccmaaPFnPutDropx15
namespace Go.Proofs.Yteahaehbciccmaa.PFnPutDrop
open Go.RowKit Go.Proofs.YteahaehbciccmaaW.PrintWords Go.Proofs.YteahaehbciccmaaW.PrintLast Go.Proofs.YteahaehbciccmaaW.PrintMore Go.Proofs.YteahaehbciccmaaV Go.Proofs.Yteahaehbciccmaa.ZFnPutDrop
open Go.Value renaming int → I, slice → Y
open Go.IntKind renaming i64 → L
open Aside0 renaming mk → D
open Option renaming bind_eq_some_iff → bs_
attribute [local go_sem] qad_ qab_ qak_ qaj_ q4_ q3_ qac_ qaa_
set_option linter.unusedVariables false
set_option linter.unusedSimpArgs false
set_option maxHeartbeats 8000000
set_option maxRecDepth 100000
def impl_isLong.f (a0:Int):Option (Bool):=(impl_within.f a0 0 4294967295).bind fun a=>(some a)
theorem impl_isLong.calls (a0:Int) (r:Bool) (w:World) (h:impl_isLong.f a0=some r) :
  Calls Try.prog 68 #[I L a0] w fun e w'=>e=.returned (.bool r)∧Drawn0 w w':=by
 have H:((impl_within.f a0 0 4294967295).bind fun a=>(some a))=some r:=h
 clear h
 obtain ⟨a,b,H⟩:=bs_.mp H
 (try dsimp only at H)
 have c:=D b
 clear b
 obtain rfl:=Option.some.inj H
 go_enter Try.func68,Try.ntmps68
 go_wp2_with (first|((with_reducible refine qd_ (f:=25) rfl ?_);refine qk_ (some 4) rfl rfl Try.func25 (by kernel_rfl) rfl #[I L a0,I L 0,I L 4294967295] rfl Z12 ?_;(with_reducible refine (impl_within.calls a0 0 4294967295 a _ c.out).mono ?_);rintro e w' ⟨rfl,⟨nd,rfl⟩⟩;refine ⟨_,rfl,?_⟩))
 go_ret
 exact ⟨by first | rfl | (simp;done) | (simp [*];done),by repeat (first | exact Drawn0.refl _ | apply Drawn0.step)⟩
def impl_AddrOk.f (a b c d e:Int):Option (Bool):=if a=4 then (if b=0 then (if c=0 then (if d=0 then ((impl_isLong.f e).bind fun g=>(some g)) else (some false)) else (some false)) else (some false)) else (if a=6 then ((impl_isLong.f b).bind fun h=>(if h=true then ((impl_isLong.f c).bind fun i=>(if i=true then ((impl_isLong.f d).bind fun j=>(if j=true then ((impl_isLong.f e).bind fun k=>(some k)) else (some false))) else (some false))) else (some false))) else (some false))
theorem impl_AddrOk.calls (b a c d i:Int) (r:Bool) (w:World) (h:impl_AddrOk.f b a c d i=some r) :
  Calls Try.prog 58 #[.agg #[I L b,I L a,I L c,I L d,I L i]] w fun e w'=>e=.returned (.bool r)∧Below w.heap.size w w':=by
 have hu28:=Try.underlying28
 have HB:=D (Below.refl w.heap.size w)
 have H:(if b=4 then (if a=0 then (if c=0 then (if d=0 then ((impl_isLong.f i).bind fun o=>(some o)) else (some false)) else (some false)) else (some false)) else (if b=6 then ((impl_isLong.f a).bind fun p=>(if p=true then ((impl_isLong.f c).bind fun q=>(if q=true then ((impl_isLong.f d).bind fun s=>(if s=true then ((impl_isLong.f i).bind fun u=>(some u)) else (some false))) else (some false))) else (some false))) else (some false)))=some r:=h
 clear h
 have y:=D H
 clear H
 go_enter Try.func58,Try.ntmps58
 go_upto_if 5 with (first|((with_reducible refine qg_ (N:=1) rfl ?_);refine bx_ (N:=1) (cs:=#[I L b,I L a,I L c,I L d,I L i]) (t:=28) ?_;intro z hg w3 hbox hb;have n_:=an_ (qc_ (pB_ HB.out) hb)<|an_ (hbox)<|an_ (bg_ hg (pB_ HB.out):w.heap.size≤z)<|D (bg_ hg (pB_ HB.out):w.heap.size≤z);clear HB;obtain ⟨HB,g,ae,af⟩:=n_;clear hb hbox hg;have ag:=q5_ g.out))
 have H:=y.out
 clear y
 by_cases c5:b=4
 ·rw [if_pos c5] at H
  have v:(b == 4)=true:=beq_iff_eq.mpr c5;have M:(b != 4)=false:=bne_eq_false_iff_eq.mpr c5;clear c5;refine rw_ v ?_
  by_cases c6:a=0
  ·rw [if_pos c6] at H
   have O:(a == 0)=true:=beq_iff_eq.mpr c6;have P:(a != 0)=false:=bne_eq_false_iff_eq.mpr c6;clear c6
   by_cases c7:c=0
   ·rw [if_pos c7] at H
    have T:(c == 0)=true:=beq_iff_eq.mpr c7;have U:(c != 0)=false:=bne_eq_false_iff_eq.mpr c7;clear c7
    by_cases c8:d=0
    ·rw [if_pos c8] at H
     have W:(d == 0)=true:=beq_iff_eq.mpr c8;have X:(d != 0)=false:=bne_eq_false_iff_eq.mpr c8;clear c8;obtain ⟨o,A,H⟩:=bs_.mp H;(try dsimp only at H);have Z:=D A;clear A;obtain rfl:=Option.some.inj H;have ah:=q5_ g.out
     go_wp2_with (first | (go_at_call 68;(with_reducible refine (impl_isLong.calls i o _ Z.out).mono ?_);rintro e w' ⟨rfl,⟨nd,rfl⟩⟩))
     go_ret;exact ⟨er_,pB_ HB.out⟩
    ·rw [if_neg c8] at H
     have W:(d == 0)=false:=beq_eq_false_iff_ne.mpr c8;have X:(d != 0)=true:=bne_iff_ne.mpr c8;obtain rfl:=Option.some.inj H;have ai:=q5_ g.out
     go_wp2
     go_ret;exact ⟨er_,pB_ HB.out⟩
   ·rw [if_neg c7] at H
    have T:(c == 0)=false:=beq_eq_false_iff_ne.mpr c7;have U:(c != 0)=true:=bne_iff_ne.mpr c7;obtain rfl:=Option.some.inj H;have aj:=q5_ g.out
    go_wp2
    go_ret;exact ⟨er_,pB_ HB.out⟩
  ·rw [if_neg c6] at H
   have O:(a == 0)=false:=beq_eq_false_iff_ne.mpr c6;have P:(a != 0)=true:=bne_iff_ne.mpr c6;obtain rfl:=Option.some.inj H;have ak:=q5_ g.out
   go_wp2
   go_ret;exact ⟨er_,pB_ HB.out⟩
 ·rw [if_neg c5] at H
  have v:(b == 4)=false:=beq_eq_false_iff_ne.mpr c5;have M:(b != 4)=true:=bne_iff_ne.mpr c5;refine rw_ v ?_
  by_cases j:b=6
  ·rw [if_pos j] at H
   have aa:(b == 6)=true:=beq_iff_eq.mpr j;have ab:(b != 6)=false:=bne_eq_false_iff_eq.mpr j;clear j;obtain ⟨p,B,H⟩:=bs_.mp H;(try dsimp only at H);have k:=D B;clear B
   by_cases l:p=true
   ·subst l
    rw [if_pos rfl] at H;obtain ⟨q,E,H⟩:=bs_.mp H;(try dsimp only at H);have x:=D E;clear E
    by_cases m:q=true
    ·subst m
     rw [if_pos rfl] at H;obtain ⟨s,G,H⟩:=bs_.mp H;(try dsimp only at H);have J:=D G;clear G
     by_cases n:s=true
     ·subst n
      rw [if_pos rfl] at H;obtain ⟨u,K,H⟩:=bs_.mp H;(try dsimp only at H);have ac:=D K;clear K;obtain rfl:=Option.some.inj H;have al:=q5_ g.out
      go_wp2_with (first|((with_reducible refine qd_ (f:=68) rfl ?_);refine qk_ (some 29) rfl rfl Try.func68 (by kernel_rfl) rfl #[I L a] rfl Z12 ?_;(with_reducible refine (impl_isLong.calls a true _ k.out).mono ?_);rintro e w' ⟨rfl,⟨nd,rfl⟩⟩;refine ⟨_,rfl,?_⟩)|(go_at_call 68;(with_reducible refine (impl_isLong.calls c true _ x.out).mono ?_);rintro e w' ⟨rfl,⟨nd,rfl⟩⟩)|(go_at_call 68;(with_reducible refine (impl_isLong.calls d true _ J.out).mono ?_);rintro e w' ⟨rfl,⟨nd,rfl⟩⟩)|(go_at_call 68;(with_reducible refine (impl_isLong.calls i u _ ac.out).mono ?_);rintro e w' ⟨rfl,⟨nd,rfl⟩⟩))
      go_ret;exact ⟨er_,pB_ HB.out⟩
     ·replace n:=Bool.eq_false_iff.mpr n
      subst n;rw [if_neg (show ¬ (false=true) by decide)] at H;obtain rfl:=Option.some.inj H;have am:=q5_ g.out
      go_wp2_with (first|((with_reducible refine qd_ (f:=68) rfl ?_);refine qk_ (some 29) rfl rfl Try.func68 (by kernel_rfl) rfl #[I L a] rfl Z12 ?_;(with_reducible refine (impl_isLong.calls a true _ k.out).mono ?_);rintro e w' ⟨rfl,⟨nd,rfl⟩⟩;refine ⟨_,rfl,?_⟩)|(go_at_call 68;(with_reducible refine (impl_isLong.calls c true _ x.out).mono ?_);rintro e w' ⟨rfl,⟨nd,rfl⟩⟩)|(go_at_call 68;(with_reducible refine (impl_isLong.calls d false _ J.out).mono ?_);rintro e w' ⟨rfl,⟨nd,rfl⟩⟩))
      go_ret;exact ⟨er_,pB_ HB.out⟩
    ·replace m:=Bool.eq_false_iff.mpr m
     subst m;rw [if_neg (show ¬ (false=true) by decide)] at H;obtain rfl:=Option.some.inj H;have an:=q5_ g.out
     go_wp2_with (first|((with_reducible refine qd_ (f:=68) rfl ?_);refine qk_ (some 29) rfl rfl Try.func68 (by kernel_rfl) rfl #[I L a] rfl Z12 ?_;(with_reducible refine (impl_isLong.calls a true _ k.out).mono ?_);rintro e w' ⟨rfl,⟨nd,rfl⟩⟩;refine ⟨_,rfl,?_⟩)|(go_at_call 68;(with_reducible refine (impl_isLong.calls c false _ x.out).mono ?_);rintro e w' ⟨rfl,⟨nd,rfl⟩⟩))
     go_ret;exact ⟨er_,pB_ HB.out⟩
   ·replace l:=Bool.eq_false_iff.mpr l
    subst l;rw [if_neg (show ¬ (false=true) by decide)] at H;obtain rfl:=Option.some.inj H;have ao:=q5_ g.out
    go_wp2_with (first|((with_reducible refine qd_ (f:=68) rfl ?_);refine qk_ (some 29) rfl rfl Try.func68 (by kernel_rfl) rfl #[I L a] rfl Z12 ?_;(with_reducible refine (impl_isLong.calls a false _ k.out).mono ?_);rintro e w' ⟨rfl,⟨nd,rfl⟩⟩;refine ⟨_,rfl,?_⟩))
    go_ret;exact ⟨er_,pB_ HB.out⟩
  ·rw [if_neg j] at H
   have aa:(b == 6)=false:=beq_eq_false_iff_ne.mpr j;have ab:(b != 6)=true:=bne_iff_ne.mpr j;obtain rfl:=Option.some.inj H
   go_wp2
   go_ret;exact ⟨er_,pB_ HB.out⟩
def impl_areBoth.f (a c d e g b h i j k:Int):Option (Bool):=(impl_AddrOk.f a c d e g).bind fun l=>(if l=true then ((impl_AddrOk.f b h i j k).bind fun m=>(if m=true then (some (a == b)) else (some false))) else (some false))
theorem impl_areBoth.calls (g i j k l m n o p q:Int) (r:Bool) (w:World) (h:impl_areBoth.f g i j k l m n o p q=some r) :
  Calls Try.prog 48 #[.agg #[I L g,I L i,I L j,I L k,I L l],.agg #[I L m,I L n,I L o,I L p,I L q]] w fun e w'=>e=.returned (.bool r)∧Below w.heap.size w w':=by
 have hu28:=Try.underlying28
 have HB:=D (Below.refl w.heap.size w)
 have H:((impl_AddrOk.f g i j k l).bind fun v=>(if v=true then ((impl_AddrOk.f m n o p q).bind fun x=>(if x=true then (some (g == m)) else (some false))) else (some false)))=some r:=h
 clear h
 obtain ⟨v,z,H⟩:=bs_.mp H
 (try dsimp only at H)
 have y:=D z
 clear z
 by_cases c4:v=true
 ·subst c4
  rw [if_pos rfl] at H;obtain ⟨x,A,H⟩:=bs_.mp H;(try dsimp only at H);have B:=D A;clear A
  by_cases c6:x=true
  ·subst c6
   rw [if_pos rfl] at H;obtain rfl:=Option.some.inj H;go_enter Try.func48,Try.ntmps48
   go_wp2_with (first|((with_reducible refine qg_ (N:=2) rfl ?_);refine bx_ (N:=2) (cs:=#[I L g,I L i,I L j,I L k,I L l]) (t:=28) ?_;intro c hg M hbox hb;have n_:=an_ (qc_ (pB_ HB.out) hb)<|an_ (hbox)<|an_ (bg_ hg (pB_ HB.out):w.heap.size≤c)<|D (bg_ hg (pB_ HB.out):w.heap.size≤c);clear HB;obtain ⟨HB,a,E,G⟩:=n_;clear hb hbox hg)|((with_reducible refine qg_ (N:=3) rfl ?_);refine bx_ (N:=3) (cs:=#[I L m,I L n,I L o,I L p,I L q]) (t:=28) ?_;intro d hg O hbox hb;have n_:=an_ (qb_ (pk_ a.out) hb)<|an_ (qc_ (pB_ HB.out) hb)<|an_ (hbox)<|an_ (bg_ hg (pB_ HB.out):w.heap.size≤d)<|an_ (bg_ hg (pB_ HB.out):w.heap.size≤d)<|an_ (nl_ hg (pk_ a.out):c≠d)<|D (by rw [hg];exact Nat.ne_of_gt (qz_ (pk_ a.out)):d≠c);clear a HB;obtain ⟨a,HB,b,J,K,s,u⟩:=n_;clear hb hbox hg;(try have:=s.out);(try have:=u.out);have P:=q5_ a.out)|((with_reducible refine qd_ (f:=58) rfl ?_);refine qk_ (some 6) rfl rfl Try.func58 (by kernel_rfl) rfl #[.agg #[I L g,I L i,I L j,I L k,I L l]] rfl Z12 ?_;(with_reducible refine (impl_AddrOk.calls g i j k l true _ y.out).mono ?_);rintro e T ⟨rfl,hb⟩;refine ⟨_,rfl,?_⟩;have n_:=an_ (qb_ (pk_ a.out) hb)<|an_ (qb_ (pk_ b.out) hb)<|D (qc_ (pB_ HB.out) hb);clear a b HB;obtain ⟨a,b,HB⟩:=n_;(try clear hb);have U:=q5_ b.out)|(go_at_call 58;(with_reducible refine (impl_AddrOk.calls m n o p q true _ B.out).mono ?_);rintro e W ⟨rfl,hb⟩;have n_:=an_ (qb_ (pk_ a.out) hb)<|an_ (qb_ (pk_ b.out) hb)<|D (qc_ (pB_ HB.out) hb);clear a b HB;obtain ⟨a,b,HB⟩:=n_;(try clear hb);have X:=q5_ a.out;have Z:=q5_ b.out))
   go_ret;exact ⟨er_,pB_ HB.out⟩
  ·replace c6:=Bool.eq_false_iff.mpr c6
   subst c6;rw [if_neg (show ¬ (false=true) by decide)] at H;obtain rfl:=Option.some.inj H;go_enter Try.func48,Try.ntmps48
   go_wp2_with (first|((with_reducible refine qg_ (N:=2) rfl ?_);refine bx_ (N:=2) (cs:=#[I L g,I L i,I L j,I L k,I L l]) (t:=28) ?_;intro c hg aa hbox hb;have n_:=an_ (qc_ (pB_ HB.out) hb)<|an_ (hbox)<|an_ (bg_ hg (pB_ HB.out):w.heap.size≤c)<|D (bg_ hg (pB_ HB.out):w.heap.size≤c);clear HB;obtain ⟨HB,a,E,G⟩:=n_;clear hb hbox hg)|((with_reducible refine qg_ (N:=3) rfl ?_);refine bx_ (N:=3) (cs:=#[I L m,I L n,I L o,I L p,I L q]) (t:=28) ?_;intro d hg ab hbox hb;have n_:=an_ (qb_ (pk_ a.out) hb)<|an_ (qc_ (pB_ HB.out) hb)<|an_ (hbox)<|an_ (bg_ hg (pB_ HB.out):w.heap.size≤d)<|an_ (bg_ hg (pB_ HB.out):w.heap.size≤d)<|an_ (nl_ hg (pk_ a.out):c≠d)<|D (by rw [hg];exact Nat.ne_of_gt (qz_ (pk_ a.out)):d≠c);clear a HB;obtain ⟨a,HB,b,J,K,s,u⟩:=n_;clear hb hbox hg;(try have:=s.out);(try have:=u.out);have ac:=q5_ a.out)|((with_reducible refine qd_ (f:=58) rfl ?_);refine qk_ (some 6) rfl rfl Try.func58 (by kernel_rfl) rfl #[.agg #[I L g,I L i,I L j,I L k,I L l]] rfl Z12 ?_;(with_reducible refine (impl_AddrOk.calls g i j k l true _ y.out).mono ?_);rintro e ad ⟨rfl,hb⟩;refine ⟨_,rfl,?_⟩;have n_:=an_ (qb_ (pk_ a.out) hb)<|an_ (qb_ (pk_ b.out) hb)<|D (qc_ (pB_ HB.out) hb);clear a b HB;obtain ⟨a,b,HB⟩:=n_;(try clear hb);have ae:=q5_ b.out)|(go_at_call 58;(with_reducible refine (impl_AddrOk.calls m n o p q false _ B.out).mono ?_);rintro e af ⟨rfl,hb⟩;have n_:=an_ (qb_ (pk_ a.out) hb)<|an_ (qb_ (pk_ b.out) hb)<|D (qc_ (pB_ HB.out) hb);clear a b HB;obtain ⟨a,b,HB⟩:=n_;(try clear hb)))
   go_ret;exact ⟨er_,pB_ HB.out⟩
 ·replace c4:=Bool.eq_false_iff.mpr c4
  subst c4;rw [if_neg (show ¬ (false=true) by decide)] at H;obtain rfl:=Option.some.inj H;go_enter Try.func48,Try.ntmps48
  go_wp2_with (first|((with_reducible refine qg_ (N:=2) rfl ?_);refine bx_ (N:=2) (cs:=#[I L g,I L i,I L j,I L k,I L l]) (t:=28) ?_;intro c hg ag hbox hb;have n_:=an_ (qc_ (pB_ HB.out) hb)<|an_ (hbox)<|an_ (bg_ hg (pB_ HB.out):w.heap.size≤c)<|D (bg_ hg (pB_ HB.out):w.heap.size≤c);clear HB;obtain ⟨HB,a,E,G⟩:=n_;clear hb hbox hg)|((with_reducible refine qg_ (N:=3) rfl ?_);refine bx_ (N:=3) (cs:=#[I L m,I L n,I L o,I L p,I L q]) (t:=28) ?_;intro d hg ah hbox hb;have n_:=an_ (qb_ (pk_ a.out) hb)<|an_ (qc_ (pB_ HB.out) hb)<|an_ (hbox)<|an_ (bg_ hg (pB_ HB.out):w.heap.size≤d)<|an_ (bg_ hg (pB_ HB.out):w.heap.size≤d)<|an_ (nl_ hg (pk_ a.out):c≠d)<|D (by rw [hg];exact Nat.ne_of_gt (qz_ (pk_ a.out)):d≠c);clear a HB;obtain ⟨a,HB,b,J,K,s,u⟩:=n_;clear hb hbox hg;(try have:=s.out);(try have:=u.out);have ai:=q5_ a.out)|((with_reducible refine qd_ (f:=58) rfl ?_);refine qk_ (some 6) rfl rfl Try.func58 (by kernel_rfl) rfl #[.agg #[I L g,I L i,I L j,I L k,I L l]] rfl Z12 ?_;(with_reducible refine (impl_AddrOk.calls g i j k l false _ y.out).mono ?_);rintro e aj ⟨rfl,hb⟩;refine ⟨_,rfl,?_⟩;have n_:=an_ (qb_ (pk_ a.out) hb)<|an_ (qb_ (pk_ b.out) hb)<|D (qc_ (pB_ HB.out) hb);clear a b HB;obtain ⟨a,b,HB⟩:=n_;(try clear hb)))
  go_ret;exact ⟨er_,pB_ HB.out⟩
def impl_isByte.f (a0:Int):Option (Bool):=(impl_within.f a0 0 255).bind fun a=>(some a)
theorem impl_isByte.calls (a0:Int) (r:Bool) (w:World) (h:impl_isByte.f a0=some r) :
  Calls Try.prog 49 #[I L a0] w fun e w'=>e=.returned (.bool r)∧Drawn0 w w':=by
 have H:((impl_within.f a0 0 255).bind fun a=>(some a))=some r:=h
 clear h
 obtain ⟨a,b,H⟩:=bs_.mp H
 (try dsimp only at H)
 have c:=D b
 clear b
 obtain rfl:=Option.some.inj H
 go_enter Try.func49,Try.ntmps49
 go_wp2_with (first|((with_reducible refine qd_ (f:=25) rfl ?_);refine qk_ (some 4) rfl rfl Try.func25 (by kernel_rfl) rfl #[I L a0,I L 0,I L 255] rfl Z12 ?_;(with_reducible refine (impl_within.calls a0 0 255 a _ c.out).mono ?_);rintro e w' ⟨rfl,⟨nd,rfl⟩⟩;refine ⟨_,rfl,?_⟩))
 go_ret
 exact ⟨by first | rfl | (simp;done) | (simp [*];done),by repeat (first | exact Drawn0.refl _ | apply Drawn0.step)⟩
def impl_isWord.f (a0:Int):Option (Bool):=(impl_within.f a0 0 65535).bind fun a=>(some a)
theorem impl_isWord.calls (a0:Int) (r:Bool) (w:World) (h:impl_isWord.f a0=some r) :
  Calls Try.prog 59 #[I L a0] w fun e w'=>e=.returned (.bool r)∧Drawn0 w w':=by
 have H:((impl_within.f a0 0 65535).bind fun a=>(some a))=some r:=h
 clear h
 obtain ⟨a,b,H⟩:=bs_.mp H
 (try dsimp only at H)
 have c:=D b
 clear b
 obtain rfl:=Option.some.inj H
 go_enter Try.func59,Try.ntmps59
 go_wp2_with (first|((with_reducible refine qd_ (f:=25) rfl ?_);refine qk_ (some 4) rfl rfl Try.func25 (by kernel_rfl) rfl #[I L a0,I L 0,I L 65535] rfl Z12 ?_;(with_reducible refine (impl_within.calls a0 0 65535 a _ c.out).mono ?_);rintro e w' ⟨rfl,⟨nd,rfl⟩⟩;refine ⟨_,rfl,?_⟩))
 go_ret
 exact ⟨by first | rfl | (simp;done) | (simp [*];done),by repeat (first | exact Drawn0.refl _ | apply Drawn0.step)⟩
def impl_areWords.l0:Nat→List Int→Int→Int→Option (Bool)
 | 0,_,_,_=>none
 | k+1,x5,x6,x7=>if x7 < x6 then (if 0≤x7 then (if x7 < (x5.length:Int) then ((impl_isWord.f (rd x5 x7)).bind fun a=>(if a=true then (impl_areWords.l0 k x5 x6 (wrap64 (x7+1))) else (some false))) else (none)) else (none)) else (some true)
def impl_areWords.f (k:Nat) (l0:List Int):Option (Bool):=impl_areWords.l0 k l0 (l0.length:Int) 0
theorem impl_areWords.calls (k:Nat) (d:Option Addr) (g:Nat) (l0:List Int) (r:Bool) (w:World) (i:Kd.C (Kd.int .i64) w d l0.length l0) (j:l0.length≤g) (h:impl_areWords.f k l0=some r) :
  Calls Try.prog 50 #[Y d l0.length g] w fun e w'=>e=.returned (.bool r)∧Drawn0 w w':=by
 have p:=D i
 have v:=D j
 clear i j
 have H:(impl_areWords.l0 k l0 (l0.length:Int) 0)=some r:=h
 clear h
 have H':=D H
 clear H
 go_enter Try.func50,Try.ntmps50
 go_wp2
 go_loopg [7] k (fun kq v7 w'=>∃ (a:Int),v7=I L a∧Aside0 (impl_areWords.l0 kq l0 (l0.length:Int) a=some r)∧Aside0 (kq≤k)∧Drawn0 w w')
 case atStart=>exact ⟨(0),Z35,H',⟨Nat.le_refl _⟩,by repeat (first | exact Drawn0.refl _ | apply Drawn0.step)⟩
 case round =>
  clear H';obtain ⟨a,rfl,HA,l,⟨x,rfl⟩⟩:=hrel
  cases gk with
  | zero=>exact absurd HA.out (by simp [impl_areWords.l0])
  | succ q =>
   have H:=HA.out;clear HA;simp only [impl_areWords.l0] at H
   by_cases c2:a < (l0.length:Int)
   ·rw [if_pos c2] at H
    have s:decide (a < (l0.length:Int))=true:=decide_eq_true c2;clear c2
    by_cases c3:0≤a
    ·rw [if_pos c3] at H
     have y:decide (0≤a)=true:=decide_eq_true c3;clear c3
     by_cases c4:a < (l0.length:Int)
     ·rw [if_pos c4] at H
      have z:decide (a < (l0.length:Int))=true:=decide_eq_true c4;clear c4;obtain ⟨m,n,H⟩:=bs_.mp H;(try dsimp only at H);have t:=D n;clear n;have o:=D H;clear H;have b:0≤(a:Int):=od_ Z22;have c:a < (l0.length:Int):=od_ Z22;obtain ⟨A,u,B⟩:=Kd.at_int p.out a b c;cases u;replace b:=eq_true b;replace c:=eq_true c
      go_upto_if 13 with (first|((with_reducible refine qd_ (f:=59) rfl ?_);refine qk_ (some 12) rfl rfl Try.func59 (by kernel_rfl) rfl #[I L (rd l0 a)] rfl Z12 ?_;(with_reducible refine (impl_isWord.calls (rd l0 a) m _ t.out).mono ?_);rintro e w' ⟨rfl,⟨nd,rfl⟩⟩;refine ⟨_,rfl,?_⟩))
      have H:=o.out;clear o
      by_cases c7:m=true
      ·subst c7
       rw [if_pos rfl] at H;have H':=D H;clear H
       go_wp2
       go_roundg q
       case measure=>have:=l.out;omega
       case rel=>exact ⟨(wrap64 (a+1)),Z35,H',⟨by have:=l.out;omega⟩,by repeat (first | exact Drawn0.refl _ | apply Drawn0.step)⟩
      ·replace c7:=Bool.eq_false_iff.mpr c7
       subst c7;rw [if_neg (show ¬ (false=true) by decide)] at H;obtain rfl:=Option.some.inj H
       go_wp2
       go_ret;exact ⟨by first | rfl | (simp;done) | (simp [*];done),by repeat (first | exact Drawn0.refl _ | apply Drawn0.step)⟩
     ·rw [if_neg c4] at H
      exact absurd H (by simp)
    ·rw [if_neg c3] at H
     exact absurd H (by simp)
   ·rw [if_neg c2] at H
    have s:decide (a < (l0.length:Int))=false:=decide_eq_false c2;clear c2;obtain rfl:=Option.some.inj H
    go_wp2
    go_ret;exact ⟨by first | rfl | (simp;done) | (simp [*];done),by repeat (first | exact Drawn0.refl _ | apply Drawn0.step)⟩
def impl_KeyOk.f (k:Nat) (a b c d e g h i j l m n o:Int):Option (Bool):=(impl_areBoth.f a b c d e g h i j l).bind fun p=>(if p=true then ((impl_isByte.f m).bind fun q=>(if q=true then ((impl_areWords.f k (([n,o]:List Int))).bind fun r=>(some r)) else (some false))) else (some false))
theorem impl_KeyOk.calls (k:Nat) (b c d g i j l m n o s p q:Int) (r:Bool) (w:World) (h:impl_KeyOk.f k b c d g i j l m n o s p q=some r) :
  Calls Try.prog 37 #[.agg #[I L b,I L c,I L d,I L g,I L i,I L j,I L l,I L m,I L n,I L o,I L s,I L p,I L q]] w fun e w'=>e=.returned (.bool r)∧Below w.heap.size w w':=by
 have hu30:=Try.underlying30
 have hu28:=Try.underlying28
 have HB:=D (Below.refl w.heap.size w)
 have H:((impl_areBoth.f b c d g i j l m n o).bind fun z=>(if z=true then ((impl_isByte.f s).bind fun A=>(if A=true then ((impl_areWords.f k (([p,q]:List Int))).bind fun v=>(some v)) else (some false))) else (some false)))=some r:=h
 clear h
 obtain ⟨z,G,H⟩:=bs_.mp H
 (try dsimp only at H)
 have B:=D G
 clear G
 by_cases c3:z=true
 ·subst c3
  rw [if_pos rfl] at H;obtain ⟨A,J,H⟩:=bs_.mp H;(try dsimp only at H);have K:=D J;clear J
  by_cases c5:A=true
  ·subst c5
   rw [if_pos rfl] at H;obtain ⟨O,x⟩:∃ y_:List Int,y_=(([p,q]:List Int)):=⟨_,rfl⟩
   replace H:((impl_areWords.f k O).bind fun v=>(some v))=some r:=by first|(rw [x];with_reducible exact H)|(have H2_:=(Option.bind_some _ _).symm.trans H;rw [x];with_reducible exact H2_)|(have H2_:=(Option.bind_some _ _).symm.trans H;with_reducible exact H2_)|with_reducible exact H|(rw [x];exact H)|exact H
   have P:=D x;clear x;obtain ⟨v,T,H⟩:=bs_.mp H;(try dsimp only at H);have X:=D T;clear T;obtain rfl:=Option.some.inj H;go_enter Try.func37,Try.ntmps37
   go_wp2_with (first|((with_reducible refine gld_ 28 rfl ?_);(first|refine la28o0_ ?_|refine la28o5_ ?_))|((with_reducible refine gld_ 3 rfl ?_);refine lc3_ ?_)|((with_reducible refine gst_ 30 rfl ?_);refine sa30_ ?_)|((with_reducible refine gld_ 30 rfl ?_);refine la30_ ?_)|((with_reducible refine qg_ (N:=1) rfl ?_);(try (refine qam_ (by rfl) ?_;dsimp only));refine bx_ (N:=1) (cs:=#[I L b,I L c,I L d,I L g,I L i,I L j,I L l,I L m,I L n,I L o,I L s,I L p,I L q]) (t:=30) ?_;intro u hg w7 hbox hb;have n_:=an_ (qc_ (pB_ HB.out) hb)<|an_ (hbox)<|an_ (bg_ hg (pB_ HB.out):w.heap.size≤u)<|D (bg_ hg (pB_ HB.out):w.heap.size≤u);clear HB;obtain ⟨HB,a,U,W⟩:=n_;clear hb hbox hg;obtain ⟨ab,ac,ad,ae,af,ag,ah,ai,aj,ak,al,am,an,ao,ap,aq,ar,au,av,aw,ax,ay,az,aA,aB,aC⟩:=cells13 a.out)|((with_reducible refine qd_ (f:=48) rfl ?_);refine qk_ (some 7) rfl rfl Try.func48 (by kernel_rfl) rfl #[.agg #[I L b,I L c,I L d,I L g,I L i],.agg #[I L j,I L l,I L m,I L n,I L o]] rfl Z12 ?_;(with_reducible refine (impl_areBoth.calls b c d g i j l m n o true _ B.out).mono ?_);rintro e w9 ⟨rfl,hb⟩;refine ⟨_,rfl,?_⟩;have n_:=an_ (qb_ (pk_ a.out) hb)<|D (qc_ (pB_ HB.out) hb);clear a HB;obtain ⟨a,HB⟩:=n_;(try clear hb);obtain ⟨aE,aF,aG,aH,aI,aJ,aK,aL,aM,aN,aO,aP,aQ,aR,aS,aT,aU,aV,aW,aX,aY,aZ,a0,a1,a2,a3⟩:=cells13 a.out)|(go_at_call 49;(with_reducible refine (impl_isByte.calls s true _ K.out).mono ?_);rintro e w' ⟨rfl,⟨nd,rfl⟩⟩)|((with_reducible refine qg_ (N:=18) rfl ?_);(try (refine qam_ (by rfl) ?_;dsimp only));refine Kd.R_lit (Kd.int .i64) _ 3 ?hg (N:=18) ?hd (xs:=([p,q]:List Int)) (inner:=[I L p,I L q]) (ok:=fun _=>True) (okp:=fun _=>True) ?hr ?hp (fun _ hk=>hk) trivial (Below.refl _ _) (Nat.le_refl _) (by simp) ?_;(case hd=>rfl);(case hg=>rfl);(case hr=>first|(go_simp;done)|(go_simp;rfl));(case hp=>exact (Reps.one (show Kd.M (Kd.int .i64) _ _ _ p [I L p] from rfl) (Reps.one (show Kd.M (Kd.int .i64) _ _ _ q [I L q] from rfl) (Reps.none _ _))));intro a4 a5 y hb hg_ hnew_;clear hg_ hnew_;(first|rw [← P.out] at y|(simp only [Int.reduceToNat] at y;rw [← P.out] at y));have n_:=an_ (Kd.R_lower y (qh_ (pB_ HB.out)))<|an_ (qb_ (pk_ a.out) hb)<|D (qc_ (pB_ HB.out) hb);clear a HB;obtain ⟨E,a,HB⟩:=n_;clear hb y;obtain ⟨Ao13,co13,Z⟩:=Kd.R_slice E.out;subst Z)|(go_at_call 50;(with_reducible refine (impl_areWords.calls k _ _ O v _ ?side1 ?side2 X.out).mono ?_);(case side1=>exact pC_ ((Kd.R_reads' E.out).2.2));(case side2=>exact (Kd.R_reads' E.out).2.1);rintro e w' ⟨rfl,⟨nd,rfl⟩⟩))
   go_ret;exact ⟨er_,pB_ HB.out⟩
  ·replace c5:=Bool.eq_false_iff.mpr c5
   subst c5;rw [if_neg (show ¬ (false=true) by decide)] at H;obtain rfl:=Option.some.inj H;go_enter Try.func37,Try.ntmps37
   go_wp2_with (first|((with_reducible refine gld_ 28 rfl ?_);(first|refine la28o0_ ?_|refine la28o5_ ?_))|((with_reducible refine gld_ 3 rfl ?_);refine lc3_ ?_)|((with_reducible refine gst_ 30 rfl ?_);refine sa30_ ?_)|((with_reducible refine gld_ 30 rfl ?_);refine la30_ ?_)|((with_reducible refine qg_ (N:=1) rfl ?_);(try (refine qam_ (by rfl) ?_;dsimp only));refine bx_ (N:=1) (cs:=#[I L b,I L c,I L d,I L g,I L i,I L j,I L l,I L m,I L n,I L o,I L s,I L p,I L q]) (t:=30) ?_;intro u hg a6 hbox hb;have n_:=an_ (qc_ (pB_ HB.out) hb)<|an_ (hbox)<|an_ (bg_ hg (pB_ HB.out):w.heap.size≤u)<|D (bg_ hg (pB_ HB.out):w.heap.size≤u);clear HB;obtain ⟨HB,a,U,W⟩:=n_;clear hb hbox hg;obtain ⟨a7,a8,a9,ba,bb,bc,bd,be,bf,bg,bh,bi,bj,bk,bl,bm,bn,bo,bp,bq,bs,bu,bv,bw,bx,bA⟩:=cells13 a.out)|((with_reducible refine qd_ (f:=48) rfl ?_);refine qk_ (some 7) rfl rfl Try.func48 (by kernel_rfl) rfl #[.agg #[I L b,I L c,I L d,I L g,I L i],.agg #[I L j,I L l,I L m,I L n,I L o]] rfl Z12 ?_;(with_reducible refine (impl_areBoth.calls b c d g i j l m n o true _ B.out).mono ?_);rintro e bB ⟨rfl,hb⟩;refine ⟨_,rfl,?_⟩;have n_:=an_ (qb_ (pk_ a.out) hb)<|D (qc_ (pB_ HB.out) hb);clear a HB;obtain ⟨a,HB⟩:=n_;(try clear hb);obtain ⟨bC,bD,bE,bF,bG,bH,bI,bJ,bK,bL,bM,bN,bO,bP,bQ,bR,bS,bT,bU,bV,bW,bX,bY,bZ,b0,b1⟩:=cells13 a.out)|(go_at_call 49;(with_reducible refine (impl_isByte.calls s false _ K.out).mono ?_);rintro e w' ⟨rfl,⟨nd,rfl⟩⟩))
   go_ret;exact ⟨er_,pB_ HB.out⟩
 ·replace c3:=Bool.eq_false_iff.mpr c3
  subst c3;rw [if_neg (show ¬ (false=true) by decide)] at H;obtain rfl:=Option.some.inj H;go_enter Try.func37,Try.ntmps37
  go_wp2_with (first|((with_reducible refine gld_ 28 rfl ?_);(first|refine la28o0_ ?_|refine la28o5_ ?_))|((with_reducible refine gld_ 3 rfl ?_);refine lc3_ ?_)|((with_reducible refine gst_ 30 rfl ?_);refine sa30_ ?_)|((with_reducible refine gld_ 30 rfl ?_);refine la30_ ?_)|((with_reducible refine qg_ (N:=1) rfl ?_);(try (refine qam_ (by rfl) ?_;dsimp only));refine bx_ (N:=1) (cs:=#[I L b,I L c,I L d,I L g,I L i,I L j,I L l,I L m,I L n,I L o,I L s,I L p,I L q]) (t:=30) ?_;intro u hg b2 hbox hb;have n_:=an_ (qc_ (pB_ HB.out) hb)<|an_ (hbox)<|an_ (bg_ hg (pB_ HB.out):w.heap.size≤u)<|D (bg_ hg (pB_ HB.out):w.heap.size≤u);clear HB;obtain ⟨HB,a,U,W⟩:=n_;clear hb hbox hg;obtain ⟨b3,b4,b5,b6,b7,b8,b9,ca,cb,cc,cd,ce,cf,cg,ch,ci,cj,ck,cl,cm,cn,co,cp,cq,cr,ct⟩:=cells13 a.out)|((with_reducible refine qd_ (f:=48) rfl ?_);refine qk_ (some 7) rfl rfl Try.func48 (by kernel_rfl) rfl #[.agg #[I L b,I L c,I L d,I L g,I L i],.agg #[I L j,I L l,I L m,I L n,I L o]] rfl Z12 ?_;(with_reducible refine (impl_areBoth.calls b c d g i j l m n o false _ B.out).mono ?_);rintro e cu ⟨rfl,hb⟩;refine ⟨_,rfl,?_⟩;have n_:=an_ (qb_ (pk_ a.out) hb)<|D (qc_ (pB_ HB.out) hb);clear a HB;obtain ⟨a,HB⟩:=n_;(try clear hb)))
  go_ret;exact ⟨er_,pB_ HB.out⟩
def impl_FlowKeyOk.f (k:Nat) (a b c d e g h i j l m n o p:Int):Option (Bool):=(impl_within.f a 1 8).bind fun q=>(if q=true then ((impl_KeyOk.f k b c d e g h i j l m n o p).bind fun r=>(some r)) else (some false))
theorem impl_FlowKeyOk.calls (k:Nat) (a b c d g i j l m n o p q s:Int) (r:Bool) (w:World) (h:impl_FlowKeyOk.f k a b c d g i j l m n o p q s=some r) :
  Calls Try.prog 24 #[.agg #[I L a,I L b,I L c,I L d,I L g,I L i,I L j,I L l,I L m,I L n,I L o,I L p,I L q,I L s]] w fun e w'=>e=.returned (.bool r)∧Below w.heap.size w w':=by
 have hu32:=Try.underlying32
 have hu30:=Try.underlying30
 have HB:=D (Below.refl w.heap.size w)
 have H:((impl_within.f a 1 8).bind fun x=>(if x=true then ((impl_KeyOk.f k b c d g i j l m n o p q s).bind fun y=>(some y)) else (some false)))=some r:=h
 clear h
 obtain ⟨x,z,H⟩:=bs_.mp H
 (try dsimp only at H)
 have A:=D z
 clear z
 by_cases c3:x=true
 ·subst c3
  rw [if_pos rfl] at H;obtain ⟨y,B,H⟩:=bs_.mp H;(try dsimp only at H);have E:=D B;clear B;obtain rfl:=Option.some.inj H;go_enter Try.func24,Try.ntmps24
  go_wp2_with (first|((with_reducible refine gld_ 30 rfl ?_);refine la30o1_ ?_)|((with_reducible refine gld_ 3 rfl ?_);refine lc3_ ?_)|((with_reducible refine gst_ 32 rfl ?_);refine sa32_ ?_)|((with_reducible refine gld_ 32 rfl ?_);refine la32_ ?_)|((with_reducible refine qg_ (N:=1) rfl ?_);refine bx_ (N:=1) (cs:=#[I L a,I L b,I L c,I L d,I L g,I L i,I L j,I L l,I L m,I L n,I L o,I L p,I L q,I L s]) (t:=32) ?_;intro v hg K hbox hb;have n_:=an_ (qc_ (pB_ HB.out) hb)<|an_ (hbox)<|an_ (bg_ hg (pB_ HB.out):w.heap.size≤v)<|D (bg_ hg (pB_ HB.out):w.heap.size≤v);clear HB;obtain ⟨HB,u,G,J⟩:=n_;clear hb hbox hg;obtain ⟨M,O,P,T,U,W,X,Z,aa,ab,ac,ad,ae,af,ag,ah,ai,aj,ak,al,am,an,ao,ap,aq,ar,au,av⟩:=cells14 u.out)|((with_reducible refine qd_ (f:=25) rfl ?_);refine qk_ (some 5) rfl rfl Try.func25 (by kernel_rfl) rfl #[I L a,I L 1,I L 8] rfl Z12 ?_;(with_reducible refine (impl_within.calls a 1 8 true _ A.out).mono ?_);rintro e w' ⟨rfl,⟨nd,rfl⟩⟩;refine ⟨_,rfl,?_⟩)|(go_at_call 37;(with_reducible refine (impl_KeyOk.calls k b c d g i j l m n o p q s y _ E.out).mono ?_);rintro e w7 ⟨rfl,hb⟩;have n_:=an_ (qb_ (pk_ u.out) hb)<|D (qc_ (pB_ HB.out) hb);clear u HB;obtain ⟨u,HB⟩:=n_;(try clear hb)))
  go_ret;exact ⟨er_,pB_ HB.out⟩
 ·replace c3:=Bool.eq_false_iff.mpr c3
  subst c3;rw [if_neg (show ¬ (false=true) by decide)] at H;obtain rfl:=Option.some.inj H;go_enter Try.func24,Try.ntmps24
  go_wp2_with (first|((with_reducible refine gld_ 30 rfl ?_);refine la30o1_ ?_)|((with_reducible refine gld_ 3 rfl ?_);refine lc3_ ?_)|((with_reducible refine gst_ 32 rfl ?_);refine sa32_ ?_)|((with_reducible refine gld_ 32 rfl ?_);refine la32_ ?_)|((with_reducible refine qg_ (N:=1) rfl ?_);refine bx_ (N:=1) (cs:=#[I L a,I L b,I L c,I L d,I L g,I L i,I L j,I L l,I L m,I L n,I L o,I L p,I L q,I L s]) (t:=32) ?_;intro v hg w8 hbox hb;have n_:=an_ (qc_ (pB_ HB.out) hb)<|an_ (hbox)<|an_ (bg_ hg (pB_ HB.out):w.heap.size≤v)<|D (bg_ hg (pB_ HB.out):w.heap.size≤v);clear HB;obtain ⟨HB,u,G,J⟩:=n_;clear hb hbox hg;obtain ⟨ay,az,aA,aB,aC,aD,aE,aF,aG,aH,aI,aJ,aK,aL,aM,aN,aO,aP,aQ,aR,aS,aT,aU,aV,aW,aX,aY,aZ⟩:=cells14 u.out)|((with_reducible refine qd_ (f:=25) rfl ?_);refine qk_ (some 5) rfl rfl Try.func25 (by kernel_rfl) rfl #[I L a,I L 1,I L 8] rfl Z12 ?_;(with_reducible refine (impl_within.calls a 1 8 false _ A.out).mono ?_);rintro e w' ⟨rfl,⟨nd,rfl⟩⟩;refine ⟨_,rfl,?_⟩))
  go_ret;exact ⟨er_,pB_ HB.out⟩
def slices_Grow_byte_byte.f  (a1:Int):Option (List Int):=if a1 < 0 then (none) else (if (wrap64 (a1)) > 0 then (if 0≤(wrap64 (a1)) then (if ([]:List Int).length+(wrap64 (a1):Int).toNat < 140737488355328 then ((some (([]:List Int) ++ List.replicate (wrap64 (a1):Int).toNat 0:List Int)).bind fun a=>(if 0≤(a.length:Int) then (some (a.take (0:Int).toNat)) else (none))) else (none)) else (none)) else (some ([]:List Int)))
theorem slices_Grow_byte_byte.calls  (a1:Int) (r:List Int) (w:World) (h:slices_Grow_byte_byte.f a1=some r) :
  Calls Try.prog 60 #[Y none 0 0,I L a1] w fun e w'=>∃ k:Value,e=.returned (k)∧Kd.R (Kd.int .u8) 5 w' w.heap.size (fun _=>True) k r∧Below w.heap.size w w':=by
 have HB:=D (Below.refl w.heap.size w)
 have H:(if a1 < 0 then (none) else (if (wrap64 (a1)) > 0 then (if 0≤(wrap64 (a1)) then (if ([]:List Int).length+(wrap64 (a1):Int).toNat < 140737488355328 then ((some (([]:List Int) ++ List.replicate (wrap64 (a1):Int).toNat 0:List Int)).bind fun a=>(if 0≤(a.length:Int) then (some (a.take (0:Int).toNat)) else (none))) else (none)) else (none)) else (some ([]:List Int))))=some r:=h
 clear h
 by_cases c3:a1 < 0
 ·rw [if_pos c3] at H
  exact absurd H (by simp)
 ·rw [if_neg c3] at H
  have z:decide (a1 < 0)=false:=decide_eq_false c3;clear c3
  by_cases c4:(wrap64 (a1)) > 0
  ·rw [if_pos c4] at H
   have l:decide (0 < (wrap64 (a1)))=true:=decide_eq_true c4;clear c4;obtain ⟨b,hji5⟩:∃ j_:Int,(wrap64 (a1))=j_:=⟨_,rfl⟩
   replace H:(if 0≤(b) then (if ([]:List Int).length+(b:Int).toNat < 140737488355328 then ((some (([]:List Int) ++ List.replicate (b:Int).toNat 0:List Int)).bind fun a=>(if 0≤(a.length:Int) then (some (a.take (0:Int).toNat)) else (none))) else (none)) else (none))=some r:=by first|(rw [hji5] at H;exact H)|(simp only [hji5] at H ⊢;exact H)
   (try rw [hji5] at l);have hji5w:(IntKind.i64.wrap (a1))=b:=(i64_w _).trans hji5
   by_cases c6:0≤(b)
   ·rw [if_pos c6] at H
    have A:=eq_true c6;have B:decide (0≤(b))=true:=decide_eq_true c6;clear c6
    by_cases c7:([]:List Int).length+(b:Int).toNat < 140737488355328
    ·rw [if_pos c7] at H
     have u:=D c7;clear c7;obtain ⟨a,c⟩:∃ y_:List Int,y_=(([]:List Int) ++ List.replicate (b:Int).toNat 0):=⟨_,rfl⟩
     replace H:(if 0≤(a.length:Int) then (some (a.take (0:Int).toNat)) else (none))=some r:=by first|(rw [c];with_reducible exact H)|(have H2_:=(Option.bind_some _ _).symm.trans H;rw [c];with_reducible exact H2_)|(have H2_:=(Option.bind_some _ _).symm.trans H;with_reducible exact H2_)|with_reducible exact H|(rw [c];exact H)|exact H
     have v:=D c;clear c
     by_cases c8:0≤(a.length:Int)
     ·rw [if_pos c8] at H
      have E:=eq_true c8;have G:decide (0≤(a.length:Int))=true:=decide_eq_true c8;clear c8;obtain ⟨n,d⟩:∃ y_:List Int,y_=(a.take (0:Int).toNat):=⟨_,rfl⟩
      replace H:(some n)=some r:=by first|(rw [d];with_reducible exact H)|(have H2_:=(Option.bind_some _ _).symm.trans H;rw [d];with_reducible exact H2_)|(have H2_:=(Option.bind_some _ _).symm.trans H;with_reducible exact H2_)|with_reducible exact H|(rw [d];exact H)|exact H
      have o:=D d;clear d;obtain rfl:=Option.some.inj H;go_enter Try.func60,Try.ntmps60
      go_wp2_with (first|(at_builtin;refine Kd.R_append_zeros (Kd.int .u8) (w0:=w) w.heap.size rfl (.tmp 20) (.tmp 21) 22 3 5 (.int .u8 0) 1 rfl Try.underlying22 Try.underlying3 info5 rfl (by decide) (by omega) (Y none 0 0) ([]:List Int) 0 (b:Int) (fun _=>True) rfl rfl rfl ?aF ?aO (od_ Z22) ?aB ?aS ?aL ?_;(case aB=>exact (pB_ HB.out));(case aF=>exact (fun _ _=>trivial));(case aO=>exact ((Kd.R_nil _ _ _ _ (fun _=>True))));(case aS=>exact (qh_ (pB_ HB.out)));(case aL=>have:=u.out;omega);intro J K ho hb hg hat;rw [← v.out] at ho;have p:=D (hb);have q:=D (ho);clear HB;have HB:=p;have g:=q;clear p q;clear ho hb hg hat;obtain ⟨Ao10,co10,x⟩:=Kd.R_slice g.out;subst x;have j:(0:Int)≤((a.length:Int):Int):=od_ Z22;obtain ⟨i011,s,_,hsz11,_⟩:=info_parts info5;have hcut11:=cut_to (P:=Try.prog) 22 5 .i64 Try.underlying22 s Ao10 a.length co10 0 (by omega) j (Kd.R_reads' g.out).2.1;have i:=Kd.R_take (m:=(0:Int).toNat) g.out (by omega);have t:n.length=(0:Int).toNat:=(by rw [o.out,List.length_take];omega);rw [← o.out] at i;rw [← t] at i hcut11;clear t s hsz11 g;have y:=D i;clear i;replace j:=eq_true j))
      go_ret;exact ⟨_,by first|rfl|(simp [qag_,qaf_] <;> rfl)|(simp only [← hji5];first|rfl|(simp [qag_,qaf_] <;> rfl))|(simp [*,qag_,qaf_] <;> rfl),by (with_reducible repeat (first|apply Kd.R_alloc|apply Kd.R_drewN|apply Kd.R_drew));exact y.out,pB_ HB.out⟩
     ·rw [if_neg c8] at H
      exact absurd H (by simp)
    ·rw [if_neg c7] at H
     exact absurd H (by simp)
   ·rw [if_neg c6] at H
    exact absurd H (by simp)
  ·rw [if_neg c4] at H
   have l:decide (0 < (wrap64 (a1)))=false:=decide_eq_false c4;clear c4;obtain rfl:=Option.some.inj H;go_enter Try.func60,Try.ntmps60
   go_wp2
   go_ret;exact ⟨_,er_,by first|exact Kd.R_nil _ _ _ _ _|exact Kd.N_nil _ _ _ _ _|exact Kd.V_nil _ _ _ _ _|exact Kd.Q_nil _ _ _ _ _|exact Kd.S_nil _ _ _ _ _,pB_ HB.out⟩
mutual
def slices_Concat_byte_byte.l0:Nat→List (List Int)→Int→List (List Int)→Int→Int→Option (List Int)
 | 0,_,_,_,_,_=>none
 | k+1,x0,x3,x9,x10,x11=>if x11 < x10 then (if 0≤x11 then (if x11 < (x9.length:Int) then (if (wrap64 (x3+((rd_L7 x9 x11).length:Int))) < 0 then (none) else (slices_Concat_byte_byte.l0 k x0 (wrap64 (x3+((rd_L7 x9 x11).length:Int))) x9 x10 (wrap64 (x11+1)))) else (none)) else (none)) else ((slices_Grow_byte_byte.f x3).bind fun d=>(slices_Concat_byte_byte.l1 k d x0 (x0.length:Int) 0))
def slices_Concat_byte_byte.l1:Nat→List Int→List (List Int)→Int→Int→Option (List Int)
 | 0,_,_,_,_=>none
 | k+1,x6,b,c,a=>if a < c then (if 0≤a then (if a < (b.length:Int) then (if x6.length+(rd_L7 b a).length < 140737488355328 then (slices_Concat_byte_byte.l1 k (x6 ++ (rd_L7 b a)) b c (wrap64 (a+1))) else (none)) else (none)) else (none)) else (some x6)
end
def slices_Concat_byte_byte.f (k:Nat) (l0:List (List Int)):Option (List Int):=slices_Concat_byte_byte.l0 k l0 0 l0 (l0.length:Int) 0
theorem slices_Concat_byte_byte.calls (k:Nat) (t:Option Addr) (u:Nat) (l0:List (List Int)) (r:List Int) (w:World) (v:Kd.C (Kd.slice 5 (Kd.int .u8)) w t l0.length l0) (x:l0.length≤u) (h:slices_Concat_byte_byte.f k l0=some r) :
  Calls Try.prog 51 #[Y t l0.length u] w fun e w'=>∃ y:Value,e=.returned (y)∧Kd.R (Kd.int .u8) 5 w' w.heap.size (fun _=>True) y r∧Below w.heap.size w w':=by
 have z:=D v
 have al:=D x
 clear v x
 have HB:=D (Below.refl w.heap.size w)
 have H:(slices_Concat_byte_byte.l0 k l0 0 l0 (l0.length:Int) 0)=some r:=h
 clear h
 have H':=D H
 clear H
 go_enter Try.func51,Try.ntmps51
 go_wp2
 go_loopg [3,11] k (fun kq v3 v11 w'=>∃ (d:Int) (c:Int),v3=I L d∧v11=I L c∧Aside0 (slices_Concat_byte_byte.l0 kq l0 d l0 (l0.length:Int) c=some r)∧Aside0 (kq≤k)∧Aside0 (Below w.heap.size w w'))
 case atStart=>exact ⟨(0),(0),Z35,Z35,H',⟨Nat.le_refl _⟩,⟨pB_ HB.out⟩⟩
 case round =>
  clear H';obtain ⟨d,c,rfl,rfl,HA,j,HB⟩:=hrel
  cases gk with
  | zero=>exact absurd HA.out (by simp [slices_Concat_byte_byte.l0])
  | succ o =>
   have H:=HA.out;clear HA;simp only [slices_Concat_byte_byte.l0] at H
   by_cases c2:c < (l0.length:Int)
   ·rw [if_pos c2] at H
    have A:decide (c < (l0.length:Int))=true:=decide_eq_true c2;clear c2
    by_cases c3:0≤c
    ·rw [if_pos c3] at H
     have X:decide (0≤c)=true:=decide_eq_true c3;clear c3
     by_cases c4:c < (l0.length:Int)
     ·rw [if_pos c4] at H
      have Z:decide (c < (l0.length:Int))=true:=decide_eq_true c4;clear c4
      by_cases c5:(wrap64 (d+((rd_L7 l0 c).length:Int))) < 0
      ·rw [if_pos c5] at H
       exact absurd H (by simp)
      ·rw [if_neg c5] at H
       have aa:decide ((wrap64 (d+((rd_L7 l0 c).length:Int))) < 0)=false:=decide_eq_false c5;clear c5;have H':=D H;clear H;have l:0≤(c:Int):=od_ Z22;have m:c < (l0.length:Int):=od_ Z22;obtain ⟨am,an,ao,ab,p,B,E⟩:=at_L7 z.out c l m;cases ab;replace p:=rc_ HB.out p;have ap:=D E;have aq:=D B;clear E B;replace l:=eq_true l;replace m:=eq_true m
       go_wp2
       go_roundg o
       case measure=>have:=j.out;omega
       case rel=>exact ⟨(wrap64 (d+((rd_L7 l0 c).length:Int))),(wrap64 (c+1)),Z35,Z35,H',⟨by have:=j.out;omega⟩,⟨pB_ HB.out⟩⟩
     ·rw [if_neg c4] at H
      exact absurd H (by simp)
    ·rw [if_neg c3] at H
     exact absurd H (by simp)
   ·rw [if_neg c2] at H
    have A:decide (c < (l0.length:Int))=false:=decide_eq_false c2;clear c2;obtain ⟨G,J,H⟩:=bs_.mp H;(try dsimp only at H);have A6:=D J;clear J;have H':=D H;clear H
    go_wp2_with (first|((with_reducible refine qd_ (f:=60) rfl ?_);refine qk_ (some 24) rfl rfl Try.func60 (by kernel_rfl) rfl #[Y none 0 0,I L d] rfl Z12 ?_;(with_reducible refine (slices_Grow_byte_byte.calls  d G _ A6.out).mono ?_);rintro e w7 ⟨au,rfl,K,hb⟩;refine ⟨_,rfl,?_⟩;have n_:=an_ (Kd.R_lower K (qh_ (pB_ HB.out)))<|D (qc_ (pB_ HB.out) hb);clear HB;obtain ⟨ad,HB⟩:=n_;(try clear hb);(try clear K)))
    go_loopg [6,27] o (fun kq v6 ae w'=>∃ (g:List Int) (a:Int),ae=I L a∧Aside0 (slices_Concat_byte_byte.l1 kq g l0 (l0.length:Int) a=some r)∧Aside0 (kq≤o)∧Aside0 (Kd.R (Kd.int .u8) 5 w' w.heap.size (fun _=>True) v6 g)∧Aside0 (Below w.heap.size w w'))
    case atStart=>exact ⟨(G),(0),Z35,H',⟨Nat.le_refl _⟩,⟨pR_ ad.out⟩,⟨pB_ HB.out⟩⟩
    case round =>
     clear H'
     (try clear c2);(try clear A);(try clear p2);(try clear c3);(try clear X);(try clear c4);(try clear Z);(try clear c5);(try clear aa);(try clear c6);(try clear p6);(try clear c7);(try clear p7);(try clear q7);(try clear az);(try clear p);(try clear l);(try clear m)
     obtain ⟨g,a,rfl,HA,M,HO_6,HB⟩:=hrel
     cases gk with
     | zero=>exact absurd HA.out (by simp [slices_Concat_byte_byte.l1])
     | succ O =>
      have H:=HA.out;clear HA;simp only [slices_Concat_byte_byte.l1] at H
      by_cases c8:a < (l0.length:Int)
      ·rw [if_pos c8] at H
       have af:decide (a < (l0.length:Int))=true:=decide_eq_true c8;clear c8
       by_cases c9:0≤a
       ·rw [if_pos c9] at H
        have aA:decide (0≤a)=true:=decide_eq_true c9;clear c9
        by_cases c10:a < (l0.length:Int)
        ·rw [if_pos c10] at H
         have aC:decide (a < (l0.length:Int))=true:=decide_eq_true c10;clear c10
         by_cases n:g.length+(rd_L7 l0 a).length < 140737488355328
         ·rw [if_pos n] at H
          have ag:=D n;clear n;obtain ⟨P,i⟩:∃ y_:List Int,y_=(g ++ (rd_L7 l0 a)):=⟨_,rfl⟩
          replace H:(slices_Concat_byte_byte.l1 O P l0 (l0.length:Int) (wrap64 (a+1)))=some r:=by first|(rw [i];with_reducible exact H)|(have H2_:=(Option.bind_some _ _).symm.trans H;rw [i];with_reducible exact H2_)|(have H2_:=(Option.bind_some _ _).symm.trans H;with_reducible exact H2_)|with_reducible exact H|(rw [i];exact H)|exact H
          have ah:=D i;clear i;have H':=D H;clear H;have q:0≤(a:Int):=od_ Z22;have s:a < (l0.length:Int):=od_ Z22;obtain ⟨aD,aE,aG,ai,T,U,W⟩:=at_L7 z.out a q s;cases ai;replace T:=rc_ HB.out T;have aj:=D W;have aH:=D U;clear W U;replace q:=eq_true q;replace s:=eq_true s
          go_wp2_with (first|((with_reducible refine gate_builtin (b:=.append) (xs:=#[.tmp 31,.tmp 32]) rfl ?_);at_builtin;refine Kd.R_append_rows (Kd.int .u8) (w0:=w) w.heap.size rfl (.tmp 31) (.tmp 32) 22 5 (.int .u8 0) 1 rfl Try.underlying22 info5 rfl (by decide) (by omega) u6 g (rd_L7 l0 a) _ _ _ (fun _=>True) (fun _=>False) rfl rfl ?aO ?aR (fun _ _ h=>h) (fun _ h=>h.elim) ?aF ?aB ?aS ?aL ?_;(case aR=>exact pC_ (Kd.C_below aj.out HB.out));(case aB=>exact (pB_ HB.out));(case aF=>exact (fun _ _=>trivial));(case aO=>exact (pR_ HO_6.out));(case aS=>exact (qh_ (pB_ HB.out)));(case aL=>have:=ag.out;omega);intro aI aJ ho hb hg hat;rw [← ah.out] at ho;have n_:=an_ (hb)<|D (ho);clear HB HO_6;obtain ⟨HB,ak⟩:=n_;clear ho hb hg hat))
          go_roundg O
          case measure=>have:=j.out;have:=M.out;omega
          case rel=>exact ⟨(P),(wrap64 (a+1)),Z35,H',⟨by have:=j.out;have:=M.out;omega⟩,⟨pR_ ak.out⟩,⟨pB_ HB.out⟩⟩
         ·rw [if_neg n] at H
          exact absurd H (by simp)
        ·rw [if_neg c10] at H
         exact absurd H (by simp)
       ·rw [if_neg c9] at H
        exact absurd H (by simp)
      ·rw [if_neg c8] at H
       have af:decide (a < (l0.length:Int))=false:=decide_eq_false c8;clear c8;obtain rfl:=Option.some.inj H
       go_wp2
       go_ret;exact ⟨_,er_,by (with_reducible repeat (first|apply Kd.R_alloc|apply Kd.R_drewN|apply Kd.R_drew));exact HO_6.out,pB_ HB.out⟩
def impl_put.l0:Nat→Int→Int→List Int→Int→Int→Option (List Int)
 | 0,_,_,_,_,_=>none
 | k+1,x0,x1,x5,x10,x11=>if x11 < x10 then (if 0≤(wrap64 (8 * (wrap64 ((wrap64 (x1 - 1)) - x11)))) then (if 0≤x11 then (if x11 < (x5.length:Int) then (impl_put.l0 k x0 x1 (x5.set (x11:Int).toNat ((shr .i64 x0 (wrap64 (8 * (wrap64 ((wrap64 (x1 - 1)) - x11))))) % 256)) x10 (wrap64 (x11+1))) else (none)) else (none)) else (none)) else (some x5)
def impl_put.f (k:Nat) (a0 a1:Int):Option (List Int):=if 0≤a1 then (if (a1:Int).toNat≤281474976710656 then ((some (List.replicate (a1:Int).toNat 0:List Int)).bind fun a=>(impl_put.l0 k a0 a1 a (a.length:Int) 0)) else (none)) else (none)
theorem impl_put.calls (k:Nat) (a0 a1:Int) (r:List Int) (w:World) (h:impl_put.f k a0 a1=some r) :
  Calls Try.prog 62 #[I L a0,I L a1] w fun e w'=>∃ B:Value,e=.returned (B)∧Kd.R (Kd.int .u8) 5 w' w.heap.size (fun _=>True) B r∧Below w.heap.size w w':=by
 have HB:=D (Below.refl w.heap.size w)
 have H:(if 0≤a1 then (if (a1:Int).toNat≤281474976710656 then ((some (List.replicate (a1:Int).toNat 0:List Int)).bind fun b=>(impl_put.l0 k a0 a1 b (b.length:Int) 0)) else (none)) else (none))=some r:=h
 clear h
 by_cases c3:0≤a1
 ·rw [if_pos c3] at H
  have O:=eq_true c3;have P:decide (0≤a1)=true:=decide_eq_true c3;clear c3
  by_cases c4:(a1:Int).toNat≤281474976710656
  ·rw [if_pos c4] at H
   have T:=eq_true c4;have U:decide ((a1:Int).toNat≤281474976710656)=true:=decide_eq_true c4;clear c4;obtain ⟨b,j⟩:∃ y_:List Int,y_=(List.replicate (a1:Int).toNat 0):=⟨_,rfl⟩
   replace H:(impl_put.l0 k a0 a1 b (b.length:Int) 0)=some r:=by first|(rw [j];with_reducible exact H)|(have H2_:=(Option.bind_some _ _).symm.trans H;rw [j];with_reducible exact H2_)|(have H2_:=(Option.bind_some _ _).symm.trans H;with_reducible exact H2_)|with_reducible exact H|(rw [j];exact H)|exact H
   have E:=D j;clear j;have H':=D H;clear H;go_enter Try.func62,Try.ntmps62
   go_wp2_with (first|((with_reducible refine qg_ (N:=8) rfl ?_);refine Kd.R_make (Kd.int .u8) _ 5 rfl (N:=8) rfl 22 _ _ rfl a1 rfl rfl Try.underlying22 (.int .u8 0) 1 info5 rfl (by decide) (by omega) 0 (ok:=fun _=>True) (okp:=fun _=>True) rfl (fun _ hk=>hk) trivial (od_ Z22) (Nat.le_trans (Nat.mul_le_mul_right _ (od_ Z22:a1.toNat≤281474976710656)) (by omega)) (Below.refl _ _) (Nat.le_refl _) ?_;intro ac w5 l hb hg_ hnew_;clear hg_ hnew_;(first|rw [← E.out] at l|(simp only [Int.reduceToNat] at l;rw [← E.out] at l));have n_:=an_ (Kd.R_lower l (qh_ (pB_ HB.out)))<|D (qc_ (pB_ HB.out) hb);clear HB;obtain ⟨G,HB⟩:=n_;clear hb l;obtain ⟨Ao7,co7,W⟩:=Kd.R_slice G.out;subst W))
   go_loopg [11] k (fun kq v11 w'=>∃ (c:List Int) (a:Int),v11=I L a∧Aside0 (impl_put.l0 kq a0 a1 c (b.length:Int) a=some r)∧Aside0 (kq≤k)∧Aside0 (Kd.R (Kd.int .u8) 5 w' w.heap.size (fun _=>True) (Y Ao7 b.length co7) c)∧Aside0 (Below w.heap.size w w'))
   case atStart=>exact ⟨(b),(0),Z35,H',⟨Nat.le_refl _⟩,⟨pR_ G.out⟩,⟨pB_ HB.out⟩⟩
   case round =>
    clear H'
    (try clear p2);(try clear c3);(try clear O);(try clear P);(try clear c4);(try clear T);(try clear U);(try clear c6)
    obtain ⟨c,a,rfl,HA,J,HO_5,HB⟩:=hrel;have g:=(Kd.R_reads' HO_5.out).1;rw [g] at HO_5;(try simp only [g])
    cases gk with
    | zero=>exact absurd HA.out (by simp [impl_put.l0])
    | succ n =>
     have H:=HA.out;clear HA;simp only [impl_put.l0] at H
     by_cases c8:a < (b.length:Int)
     ·rw [if_pos c8] at H
      have s:decide (a < (b.length:Int))=true:=decide_eq_true c8;clear c8;(try (have u:=s;simp only [g] at u));obtain ⟨d,hji9⟩:∃ j_:Int,(wrap64 (8 * (wrap64 ((wrap64 (a1 - 1)) - a))))=j_:=⟨_,rfl⟩
      replace H:(if 0≤(d) then (if 0≤a then (if a < (c.length:Int) then (impl_put.l0 n a0 a1 (c.set (a:Int).toNat ((shr .i64 a0 (d)) % 256)) (b.length:Int) (wrap64 (a+1))) else (none)) else (none)) else (none))=some r:=by first|(rw [hji9] at H;exact H)|(simp only [hji9] at H ⊢;exact H)
      have hji9w:(IntKind.i64.wrap (8 * (wrap64 ((wrap64 (a1 - 1)) - a))))=d:=(i64_w _).trans hji9
      by_cases c10:0≤(d)
      ·rw [if_pos c10] at H
       have af:=eq_true c10;have ag:decide (0≤(d))=true:=decide_eq_true c10;clear c10;obtain ⟨i,hji11⟩:∃ j_:Int,(shr .i64 a0 (d))=j_:=⟨_,rfl⟩
       replace H:(if 0≤a then (if a < (c.length:Int) then (impl_put.l0 n a0 a1 (c.set (a:Int).toNat ((i) % 256)) (b.length:Int) (wrap64 (a+1))) else (none)) else (none))=some r:=by first|(rw [hji11] at H;exact H)|(simp only [hji11] at H ⊢;exact H)
       have hji11_:(a0 / 2 ^ min (d).toNat 64)=i:=hji11;have hji11z:(d)≤64→(a0 / 2 ^ (d).toNat)=i:=shr_small hji11
       by_cases o:0≤a
       ·rw [if_pos o] at H
        have ah:decide (0≤a)=true:=decide_eq_true o;clear o
        by_cases q:a < (c.length:Int)
        ·rw [if_pos q] at H
         have X:decide (a < (c.length:Int))=true:=decide_eq_true q;clear q;(try (have Z:=X;simp only [g] at Z));obtain ⟨x,m⟩:∃ y_:List Int,y_=(c.set (a:Int).toNat ((i) % 256)):=⟨_,rfl⟩
         replace H:(impl_put.l0 n a0 a1 x (b.length:Int) (wrap64 (a+1)))=some r:=by first|(rw [m];with_reducible exact H)|(have H2_:=(Option.bind_some _ _).symm.trans H;rw [m];with_reducible exact H2_)|(have H2_:=(Option.bind_some _ _).symm.trans H;with_reducible exact H2_)|with_reducible exact H|(rw [m];exact H)|exact H
         have aa:=D m;clear m;have H':=D H;clear H;have y:0≤(a:Int):=od_ Z22;have z:(a:Int) < ((c.length:Int):Int):=od_ Z22;obtain ⟨go14,co14,K,M,gl14,cl14,HG14⟩:=Kd.R_form HO_5.out (by omega);(first|cases K|(injection K with ea_ en_ ec_;(first|subst ea_|(injection ea_ with ea_;subst ea_));subst ec_;clear en_));have ab:=D M;have GG14:=D HG14;clear M gl14 HG14;obtain ⟨ai,aj⟩:=Kd.R_celln 0 HO_5.out (a:Int) y z;replace y:=eq_true y;replace z:=eq_true z;have HP15:=Kd.R_putg HO_5.out (a:Int) ((i) % 256)
         go_wp2_with (first|((with_reducible refine gate_store (t:=5) (p:=24) rfl ?_);refine store_event (t:=5) (p:=24) (v:=?vo_w16) (w1:=(wr.setCell ⟨go14,(a:Int).toNat,none⟩ (.int .u8 ((i) % 256)))) ?hg ?ho ?hn ?hr ?_;(case ho=>rfl);(case hg=>rfl);(case hn=>rfl);(case hr=>first|(go_simp;done)|(go_simp;rfl));intro A hw;have hg:wr.grownBy A (some go14):=(by rw [hw];exact HP15.2);have hp_:Kd.R (Kd.int .u8) 5 A w.heap.size (fun _=>True) (Y (some ⟨go14,0,none⟩) c.length co7) x:=(by rw [hw,aa.out];exact HP15.1);clear HP15;have n_:=an_ (hp_)<|D (by rw [hw];exact qe_ (HB.out) ab.out:Below w.heap.size w A);clear HO_5 HB;obtain ⟨HO_5,HB⟩:=n_;clear hg hw hp_))
         (try simp only [← g]);go_roundg n
         case measure=>have:=J.out;omega
         case rel=>exact ⟨(x),(wrap64 (a+1)),Z35,H',⟨by have:=J.out;omega⟩,⟨by (try simp only [g]);(with_reducible repeat (first|apply Kd.R_alloc|apply Kd.R_drewN|apply Kd.R_drew));exact HO_5.out⟩,⟨pB_ HB.out⟩⟩
        ·rw [if_neg q] at H
         exact absurd H (by simp)
       ·rw [if_neg o] at H
        exact absurd H (by simp)
      ·rw [if_neg c10] at H
       exact absurd H (by simp)
     ·rw [if_neg c8] at H
      have s:decide (a < (b.length:Int))=false:=decide_eq_false c8;clear c8;(try (have u:=s;simp only [g] at u));obtain rfl:=Option.some.inj H
      go_wp2
      go_ret;exact ⟨_,er_,by (with_reducible repeat (first|apply Kd.R_alloc|apply Kd.R_drewN|apply Kd.R_drew));exact HO_5.out,pB_ HB.out⟩
  ·rw [if_neg c4] at H
   exact absurd H (by simp)
 ·rw [if_neg c3] at H
  exact absurd H (by simp)
end Go.Proofs.Yteahaehbciccmaa.PFnPutDrop
