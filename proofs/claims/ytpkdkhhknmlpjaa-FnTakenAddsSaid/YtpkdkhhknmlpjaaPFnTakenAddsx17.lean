-- by a program of this session's, over the kit's words
import Derived.Test.YtpkdkhhknmlpjaaPZFnTakenAdds
import Derived.Test.YtpkdkhhknmlpjaaPFnTakenAddsx0
import Derived.Test.YtpkdkhhknmlpjaaPFnTakenAddsx16
namespace Go.Proofs.Ytpkdkhhknmlpjaa.PFnTakenAdds
open Go.RowKit Go.Proofs.YtpkdkhhknmlpjaaW.PrintWords Go.Proofs.YtpkdkhhknmlpjaaW.PrintLast Go.Proofs.YtpkdkhhknmlpjaaW.PrintMore Go.Proofs.YtpkdkhhknmlpjaaV Go.Proofs.Ytpkdkhhknmlpjaa.ZFnTakenAdds
open Go.Value renaming int → I, slice → Y
open Go.IntKind renaming i64 → L
open Aside0 renaming mk → D
open Option renaming bind_eq_some_iff → bs_
attribute [local go_sem] max2_int min2_int max_two min_two max_three min_three max_four min_four
set_option linter.unusedVariables false
set_option linter.unusedSimpArgs false
set_option maxHeartbeats 8000000
set_option maxRecDepth 100000
def impl_isFlow.f (a:Int):Option (Bool):=(impl_within.f a 0 9999).bind fun b=>(some b)
theorem impl_isFlow.calls (a:Int) (r:Bool) (w:World) (h:impl_isFlow.f a=some r) :
  Calls Try.prog 76 #[I L a] w fun e w'=>e=.returned (.bool r)∧Drawn0 w w':=by
 have H:((impl_within.f a 0 9999).bind fun b=>(some b))=some r:=h
 clear h
 obtain ⟨b,c,H⟩:=bs_.mp H
 (try dsimp only at H)
 have d:=D c
 clear c
 obtain rfl:=Option.some.inj H
 go_enter Try.func76,Try.ntmps76
 go_wp2_with (first|((with_reducible refine gate_callee (f:=81) rfl ?_);refine goesL_ (some 4) rfl rfl Try.func81 (by kernel_rfl) rfl #[I L a,I L 0,I L 9999] rfl Z20 ?_;(with_reducible refine (impl_within.calls a 0 9999 b _ d.out).mono ?_);rintro e w' ⟨rfl,⟨nd,rfl⟩⟩;refine ⟨_,rfl,?_⟩))
 go_ret
 exact ⟨by first | rfl | (simp;done) | (simp [*];done),by repeat (first | exact Drawn0.refl _ | apply Drawn0.step)⟩
def impl_Vec_isFrom.f (c d e a b:Int):Option (Bool):=(impl_within.f c a b).bind fun g=>(if g=true then ((impl_within.f d a b).bind fun h=>(if h=true then ((impl_within.f e a b).bind fun i=>(some i)) else (some false))) else (some false))
theorem impl_Vec_isFrom.calls (c d i a b:Int) (r:Bool) (w:World) (h:impl_Vec_isFrom.f c d i a b=some r) :
  Calls Try.prog 82 #[.agg #[I L c,I L d,I L i],I L a,I L b] w fun e w'=>e=.returned (.bool r)∧Below w.heap.size w w':=by
 have hu29:=Try.underlying29
 have HB:=D (Below.refl w.heap.size w)
 have H:((impl_within.f c a b).bind fun k=>(if k=true then ((impl_within.f d a b).bind fun l=>(if l=true then ((impl_within.f i a b).bind fun m=>(some m)) else (some false))) else (some false)))=some r:=h
 clear h
 obtain ⟨k,o,H⟩:=bs_.mp H
 (try dsimp only at H)
 have n:=D o
 clear o
 by_cases c5:k=true
 ·subst c5
  rw [if_pos rfl] at H;obtain ⟨l,p,H⟩:=bs_.mp H;(try dsimp only at H);have q:=D p;clear p
  by_cases c7:l=true
  ·subst c7
   rw [if_pos rfl] at H;obtain ⟨m,s,H⟩:=bs_.mp H;(try dsimp only at H);have x:=D s;clear s;obtain rfl:=Option.some.inj H;go_enter Try.func82,Try.ntmps82
   go_wp2_with (first|((with_reducible refine gate_dst (N:=3) rfl ?_);refine bx_ (N:=3) (cs:=#[I L c,I L d,I L i]) (t:=29) ?_;intro g hg y hbox hb;have n_:=an_ (below_step (pB_ HB.out) hb)<|an_ (hbox)<|an_ (bg_ hg (pB_ HB.out):w.heap.size≤g)<|D (bg_ hg (pB_ HB.out):w.heap.size≤g);clear HB;obtain ⟨HB,j,u,v⟩:=n_;clear hb hbox hg;have z:=cells3 j.out)|((with_reducible refine gate_callee (f:=81) rfl ?_);refine goesL_ (some 11) rfl rfl Try.func81 (by kernel_rfl) rfl #[I L c,I L a,I L b] rfl Z20 ?_;(with_reducible refine (impl_within.calls c a b true _ n.out).mono ?_);rintro e w' ⟨rfl,⟨nd,rfl⟩⟩;refine ⟨_,rfl,?_⟩)|(go_at_call 81;(with_reducible refine (impl_within.calls d a b true _ q.out).mono ?_);rintro e w' ⟨rfl,⟨nd,rfl⟩⟩)|(go_at_call 81;(with_reducible refine (impl_within.calls i a b m _ x.out).mono ?_);rintro e w' ⟨rfl,⟨nd,rfl⟩⟩))
   go_ret;exact ⟨er_,pB_ HB.out⟩
  ·replace c7:=Bool.eq_false_iff.mpr c7
   subst c7;rw [if_neg (show ¬ (false=true) by decide)] at H;obtain rfl:=Option.some.inj H;go_enter Try.func82,Try.ntmps82
   go_wp2_with (first|((with_reducible refine gate_dst (N:=3) rfl ?_);refine bx_ (N:=3) (cs:=#[I L c,I L d,I L i]) (t:=29) ?_;intro g hg A hbox hb;have n_:=an_ (below_step (pB_ HB.out) hb)<|an_ (hbox)<|an_ (bg_ hg (pB_ HB.out):w.heap.size≤g)<|D (bg_ hg (pB_ HB.out):w.heap.size≤g);clear HB;obtain ⟨HB,j,u,v⟩:=n_;clear hb hbox hg;have B:=cells3 j.out)|((with_reducible refine gate_callee (f:=81) rfl ?_);refine goesL_ (some 11) rfl rfl Try.func81 (by kernel_rfl) rfl #[I L c,I L a,I L b] rfl Z20 ?_;(with_reducible refine (impl_within.calls c a b true _ n.out).mono ?_);rintro e w' ⟨rfl,⟨nd,rfl⟩⟩;refine ⟨_,rfl,?_⟩)|(go_at_call 81;(with_reducible refine (impl_within.calls d a b false _ q.out).mono ?_);rintro e w' ⟨rfl,⟨nd,rfl⟩⟩))
   go_ret;exact ⟨er_,pB_ HB.out⟩
 ·replace c5:=Bool.eq_false_iff.mpr c5
  subst c5;rw [if_neg (show ¬ (false=true) by decide)] at H;obtain rfl:=Option.some.inj H;go_enter Try.func82,Try.ntmps82
  go_wp2_with (first|((with_reducible refine gate_dst (N:=3) rfl ?_);refine bx_ (N:=3) (cs:=#[I L c,I L d,I L i]) (t:=29) ?_;intro g hg E hbox hb;have n_:=an_ (below_step (pB_ HB.out) hb)<|an_ (hbox)<|an_ (bg_ hg (pB_ HB.out):w.heap.size≤g)<|D (bg_ hg (pB_ HB.out):w.heap.size≤g);clear HB;obtain ⟨HB,j,u,v⟩:=n_;clear hb hbox hg;have G:=cells3 j.out)|((with_reducible refine gate_callee (f:=81) rfl ?_);refine goesL_ (some 11) rfl rfl Try.func81 (by kernel_rfl) rfl #[I L c,I L a,I L b] rfl Z20 ?_;(with_reducible refine (impl_within.calls c a b false _ n.out).mono ?_);rintro e w' ⟨rfl,⟨nd,rfl⟩⟩;refine ⟨_,rfl,?_⟩))
  go_ret;exact ⟨er_,pB_ HB.out⟩
def impl_ChargeOk.f (a b c:Int):Option (Bool):=(impl_Vec_isFrom.f a b c 1 2000).bind fun d=>(some d)
theorem impl_ChargeOk.calls (a b c:Int) (r:Bool) (w:World) (h:impl_ChargeOk.f a b c=some r) :
  Calls Try.prog 77 #[.agg #[I L a,I L b,I L c]] w fun e w'=>e=.returned (.bool r)∧Below w.heap.size w w':=by
 have hu29:=Try.underlying29
 have HB:=D (Below.refl w.heap.size w)
 have H:((impl_Vec_isFrom.f a b c 1 2000).bind fun g=>(some g))=some r:=h
 clear h
 obtain ⟨g,i,H⟩:=bs_.mp H
 (try dsimp only at H)
 have k:=D i
 clear i
 obtain rfl:=Option.some.inj H
 go_enter Try.func77,Try.ntmps77
 go_wp2_with (first|((with_reducible refine gate_dst (N:=1) rfl ?_);refine bx_ (N:=1) (cs:=#[I L a,I L b,I L c]) (t:=29) ?_;intro j hg l hbox hb;have n_:=an_ (below_step (pB_ HB.out) hb)<|an_ (hbox)<|an_ (bg_ hg (pB_ HB.out):w.heap.size≤j)<|D (bg_ hg (pB_ HB.out):w.heap.size≤j);clear HB;obtain ⟨HB,d,m,n⟩:=n_;clear hb hbox hg;have o:=cells3 d.out)|((with_reducible refine gate_callee (f:=82) rfl ?_);refine goesL_ (some 4) rfl rfl Try.func82 (by kernel_rfl) rfl #[.agg #[I L a,I L b,I L c],I L 1,I L 2000] rfl Z20 ?_;(with_reducible refine (impl_Vec_isFrom.calls a b c 1 2000 g _ k.out).mono ?_);rintro e p ⟨rfl,hb⟩;refine ⟨_,rfl,?_⟩;have n_:=an_ (blk_below (pk_ d.out) hb)<|D (below_step (pB_ HB.out) hb);clear d HB;obtain ⟨d,HB⟩:=n_;(try clear hb)))
 go_ret
 exact ⟨er_,pB_ HB.out⟩
def impl_isWeight.f (a:Int):Option (Bool):=(impl_within.f a 1 10).bind fun b=>(some b)
theorem impl_isWeight.calls (a:Int) (r:Bool) (w:World) (h:impl_isWeight.f a=some r) :
  Calls Try.prog 78 #[I L a] w fun e w'=>e=.returned (.bool r)∧Drawn0 w w':=by
 have H:((impl_within.f a 1 10).bind fun b=>(some b))=some r:=h
 clear h
 obtain ⟨b,c,H⟩:=bs_.mp H
 (try dsimp only at H)
 have d:=D c
 clear c
 obtain rfl:=Option.some.inj H
 go_enter Try.func78,Try.ntmps78
 go_wp2_with (first|((with_reducible refine gate_callee (f:=81) rfl ?_);refine goesL_ (some 4) rfl rfl Try.func81 (by kernel_rfl) rfl #[I L a,I L 1,I L 10] rfl Z20 ?_;(with_reducible refine (impl_within.calls a 1 10 b _ d.out).mono ?_);rintro e w' ⟨rfl,⟨nd,rfl⟩⟩;refine ⟨_,rfl,?_⟩))
 go_ret
 exact ⟨by first | rfl | (simp;done) | (simp [*];done),by repeat (first | exact Drawn0.refl _ | apply Drawn0.step)⟩
def slices_Index_int_int.l0:Nat→List Int→Int→Int→Int→Option (Int)
 | 0,_,_,_,_=>none
 | k+1,b,c,d,a=>if a < d then (if 0≤a then (if a < (b.length:Int) then (if c=(rd b a) then (some a) else (slices_Index_int_int.l0 k b c d (wrap64 (a+1)))) else (none)) else (none)) else (some (-1))
def slices_Index_int_int.f (k:Nat) (l0:List Int) (a:Int):Option (Int):=slices_Index_int_int.l0 k l0 a (l0.length:Int) 0
theorem slices_Index_int_int.calls (k:Nat) (i:Option Addr) (j:Nat) (l0:List Int) (b r:Int) (w:World) (l:Kd.C (Kd.int .i64) w i l0.length l0) (m:l0.length≤j) (h:slices_Index_int_int.f k l0 b=some r) :
  Calls Try.prog 83 #[Y i l0.length j,I L b] w fun e w'=>e=.returned (I L r)∧Drawn0 w w':=by
 have p:=D l
 have x:=D m
 clear l m
 have H:(slices_Index_int_int.l0 k l0 b (l0.length:Int) 0)=some r:=h
 clear h
 have H':=D H
 clear H
 go_enter Try.func83,Try.ntmps83
 go_wp2
 go_loopg [8] k (fun kq q w'=>∃ (a:Int),q=I L a∧Aside0 (slices_Index_int_int.l0 kq l0 b (l0.length:Int) a=some r)∧Aside0 (kq≤k)∧Drawn0 w w')
 case atStart=>exact ⟨(0),Z69,H',⟨Nat.le_refl _⟩,by repeat (first | exact Drawn0.refl _ | apply Drawn0.step)⟩
 case round =>
  clear H'
  try clear y
  obtain ⟨a,rfl,HA,n,⟨z,rfl⟩⟩:=hrel
  cases gk with
  | zero=>exact absurd HA.out (by simp [slices_Index_int_int.l0])
  | succ s =>
   have H:=HA.out;clear HA;simp only [slices_Index_int_int.l0] at H
   by_cases c3:a < (l0.length:Int)
   ·rw [if_pos c3] at H
    have t:decide (a < (l0.length:Int))=true:=decide_eq_true c3;clear c3
    by_cases c4:0≤a
    ·rw [if_pos c4] at H
     have A:decide (0≤a)=true:=decide_eq_true c4;clear c4
     by_cases c5:a < (l0.length:Int)
     ·rw [if_pos c5] at H
      have B:decide (a < (l0.length:Int))=true:=decide_eq_true c5;clear c5;have o:=D H;clear H;have c:0≤(a:Int):=od_ Z68;have d:a < (l0.length:Int):=od_ Z68;obtain ⟨E,u,G⟩:=Kd.at_int p.out a c d;cases u;replace c:=eq_true c;replace d:=eq_true d
      go_upto_if 16 with (fail)
      have H:=o.out;clear o
      by_cases c7:b=(rd l0 a)
      ·rw [if_pos c7] at H
       have g:(b == (rd l0 a))=true:=beq_iff_eq.mpr c7;have v:(b != (rd l0 a))=false:=bne_eq_false_iff_eq.mpr c7;clear c7;refine rw_ g ?_;obtain rfl:=Option.some.inj H
       go_wp2
       go_ret;exact ⟨by first | rfl | (simp;done) | (simp [*];done),by repeat (first | exact Drawn0.refl _ | apply Drawn0.step)⟩
      ·rw [if_neg c7] at H
       have g:(b == (rd l0 a))=false:=beq_eq_false_iff_ne.mpr c7;have v:(b != (rd l0 a))=true:=bne_iff_ne.mpr c7;refine rw_ g ?_;have H':=D H;clear H
       go_wp2
       go_roundg s
       case measure=>have:=n.out;omega
       case rel=>exact ⟨(wrap64 (a+1)),Z69,H',⟨by have:=n.out;omega⟩,by repeat (first | exact Drawn0.refl _ | apply Drawn0.step)⟩
     ·rw [if_neg c5] at H
      exact absurd H (by simp)
    ·rw [if_neg c4] at H
     exact absurd H (by simp)
   ·rw [if_neg c3] at H
    have t:decide (a < (l0.length:Int))=false:=decide_eq_false c3;clear c3;obtain rfl:=Option.some.inj H
    go_wp2
    go_ret;exact ⟨by first | rfl | (simp;done) | (simp [*];done),by repeat (first | exact Drawn0.refl _ | apply Drawn0.step)⟩
def slices_Contains_int_int.f (k:Nat) (l0:List Int) (a:Int):Option (Bool):=(slices_Index_int_int.f k l0 a).bind fun b=>(some (decide (b ≥ 0)))
theorem slices_Contains_int_int.calls (k:Nat) (b:Option Addr) (c:Nat) (l0:List Int) (a:Int) (r:Bool) (w:World) (g:Kd.C (Kd.int .i64) w b l0.length l0) (i:l0.length≤c) (h:slices_Contains_int_int.f k l0 a=some r) :
  Calls Try.prog 79 #[Y b l0.length c,I L a] w fun e w'=>e=.returned (.bool r)∧Drawn0 w w':=by
 have l:=D g
 have m:=D i
 clear g i
 have H:((slices_Index_int_int.f k l0 a).bind fun d=>(some (decide (d ≥ 0))))=some r:=h
 clear h
 obtain ⟨d,j,H⟩:=bs_.mp H
 (try dsimp only at H)
 have n:=D j
 clear j
 obtain rfl:=Option.some.inj H
 go_enter Try.func79,Try.ntmps79
 go_wp2_with (first|((with_reducible refine gate_callee (f:=83) rfl ?_);refine goesL_ (some 7) rfl rfl Try.func83 (by kernel_rfl) rfl #[Y b l0.length c,I L a] rfl Z20 ?_;(with_reducible refine (slices_Index_int_int.calls k _ _ l0 a d _ ?side1 ?side2 n.out).mono ?_);(case side1=>exact pC_ l.out);(case side2=>exact m.out);rintro e w' ⟨rfl,⟨nd,rfl⟩⟩;refine ⟨_,rfl,?_⟩))
 go_ret
 exact ⟨by first | rfl | (simp;done) | (simp [*];done),by repeat (first | exact Drawn0.refl _ | apply Drawn0.step)⟩
def impl_dealOk.l0:Nat→List Int→Int→Int→Int→Int→Int→Int→Int→List Int→Option (Bool)
 | 0,_,_,_,_,_,_,_,_,_=>none
 | k+1,b,d,a,e,g,h,i,j,c=>if a < d then (if 0≤a then (if a < (b.length:Int) then ((impl_isFlow.f (rd b a)).bind fun l=>(if l=true then (if a > 0 then (if 0≤(wrap64 (a - 1)) then (if (wrap64 (a - 1)) < (c.length:Int) then (if (rd c (wrap64 (a - 1))) ≥ (rd b a) then (some false) else (impl_dealOk.l0 k b d (wrap64 (a+1)) e g h i j c)) else (none)) else (none)) else (impl_dealOk.l0 k b d (wrap64 (a+1)) e g h i j c)) else (some false))) else (none)) else (none)) else ((impl_ChargeOk.f h i j).bind fun m=>(if m=true then ((impl_isWeight.f g).bind fun n=>(if n=true then ((slices_Contains_int_int.f k c e).bind fun o=>(some o)) else (some false))) else (some false)))
def impl_dealOk.f (k:Nat) (b c d e g:Int) (a:List Int):Option (Bool):=impl_dealOk.l0 k a (a.length:Int) 0 b c d e g a
theorem impl_dealOk.calls (k:Nat) (o n g i j:Int) (v:Option Addr) (x:Nat) (a:List Int) (r:Bool) (w:World) (W:Kd.C (Kd.int .i64) w v a.length a) (X:a.length≤x) (h:impl_dealOk.f k o n g i j a=some r) :
  Calls Try.prog 63 #[.agg #[I L o,I L n,I L g,I L i,I L j,Y v a.length x]] w fun e w'=>e=.returned (.bool r)∧Below w.heap.size w w':=by
 have hu44:=Try.underlying44
 have hu29:=Try.underlying29
 have s:=D W
 have ag:=D X
 clear W X
 have HB:=D (Below.refl w.heap.size w)
 have H:(impl_dealOk.l0 k a (a.length:Int) 0 o n g i j a)=some r:=h
 clear h
 have H':=D H
 clear H
 go_enter Try.func63,Try.ntmps63
 go_wp2_with (first|((with_reducible refine gate_dst (N:=1) rfl ?_);refine bx_ (N:=1) (cs:=#[I L o,I L n,I L g,I L i,I L j,Y v a.length x]) (t:=44) ?_;intro K hg w2 hbox hb;have n_:=an_ (below_step (pB_ HB.out) hb)<|an_ (hbox)<|an_ (bg_ hg (pB_ HB.out):w.heap.size≤K)<|D (bg_ hg (pB_ HB.out):w.heap.size≤K);clear HB;obtain ⟨HB,c,av,aw⟩:=n_;clear hb hbox hg;have ah:=cells6 c.out))
 go_loopg [8] k (fun kq v8 w'=>∃ (b:Int),v8=I L b∧Aside0 (impl_dealOk.l0 kq a (a.length:Int) b o n g i j a=some r)∧Aside0 (kq≤k)∧Aside0 (w'.heap[K]?=some (.cells #[I L o,I L n,I L g,I L i,I L j,(Y v a.length x)] 44 (0,0)))∧Aside0 (Below w.heap.size w w'))
 case atStart=>exact ⟨(0),Z69,H',⟨Nat.le_refl _⟩,⟨pk_ c.out⟩,⟨pB_ HB.out⟩⟩
 case round =>
  clear H'
  (try clear p2);(try clear ah)
  obtain ⟨b,rfl,HA,y,c,HB⟩:=hrel
  cases gk with
  | zero=>exact absurd HA.out (by simp [impl_dealOk.l0])
  | succ z =>
   have H:=HA.out;clear HA;simp only [impl_dealOk.l0] at H
   by_cases c4:b < (a.length:Int)
   ·rw [if_pos c4] at H
    have aj:decide (b < (a.length:Int))=true:=decide_eq_true c4;clear c4
    by_cases c5:0≤b
    ·rw [if_pos c5] at H
     have ay:decide (0≤b)=true:=decide_eq_true c5;clear c5
     by_cases c6:b < (a.length:Int)
     ·rw [if_pos c6] at H
      have az:decide (b < (a.length:Int))=true:=decide_eq_true c6;clear c6;obtain ⟨ak,Z,H⟩:=bs_.mp H;(try dsimp only at H);have A:=D Z;clear Z
      by_cases c8:ak=true
      ·subst c8
       rw [if_pos rfl] at H
       by_cases c9:b > 0
       ·rw [if_pos c9] at H
        have al:decide (0 < b)=true:=decide_eq_true c9;clear c9;obtain ⟨d,hji10⟩:∃ j_:Int,(wrap64 (b - 1))=j_:=⟨_,rfl⟩
        replace H:(if 0≤(d) then (if (d) < (a.length:Int) then (if (rd a (d)) ≥ (rd a b) then (some false) else (impl_dealOk.l0 z a (a.length:Int) (wrap64 (b+1)) o n g i j a)) else (none)) else (none))=some r:=by first|(rw [hji10] at H;exact H)|(simp only [hji10] at H ⊢;exact H)
        (try rw [hji10] at A);have hji10w:(IntKind.i64.wrap (b - 1))=d:=(i64_w _).trans hji10
        by_cases B:0≤(d)
        ·rw [if_pos B] at H
         have aA:decide (0≤(d))=true:=decide_eq_true B;clear B
         by_cases E:(d) < (a.length:Int)
         ·rw [if_pos E] at H
          have aB:decide ((d) < (a.length:Int))=true:=decide_eq_true E;clear E;have aa:=D H;clear H;have l:0≤(b:Int):=od_ Z68;have m:b < (a.length:Int):=od_ Z68;obtain ⟨M,u,p⟩:=Kd.at_int s.out b l m;cases u;replace p:=rc_ HB.out p;replace l:=eq_true l;replace m:=eq_true m
          go_upto_if 29 with (first|((with_reducible refine gate_callee (f:=76) rfl ?_);refine goesL_ (some 14) rfl rfl Try.func76 (by kernel_rfl) rfl #[I L (rd a b)] rfl Z20 ?_;(with_reducible refine (impl_isFlow.calls (rd a b) true _ A.out).mono ?_);rintro e w' ⟨rfl,⟨nd,rfl⟩⟩;refine ⟨_,rfl,?_⟩;have aC:=cells6 c.out;have O:0≤((d):Int):=od_ Z68;have P:(d) < (a.length:Int):=od_ Z68;obtain ⟨am,an,ab⟩:=Kd.at_int s.out (d) O P;obtain rfl:M=am:=(by injection an);replace ab:=rc_ HB.out ab;replace O:=eq_true O;replace P:=eq_true P))
          have H:=aa.out;clear aa
          by_cases q:(rd a (d)) ≥ (rd a b)
          ·rw [if_pos q] at H
           have T:decide ((rd a b)≤(rd a (d)))=true:=decide_eq_true q;clear q;refine rw_ T ?_;obtain rfl:=Option.some.inj H
           go_wp2
           go_ret;exact ⟨by first|rfl|(simp [errW_none,errW_some] <;> rfl)|(simp only [← hji10];first|rfl|(simp [errW_none,errW_some] <;> rfl))|(simp [*,errW_none,errW_some] <;> rfl),pB_ HB.out⟩
          ·rw [if_neg q] at H
           have T:decide ((rd a b)≤(rd a (d)))=false:=decide_eq_false q;clear q;refine rw_ T ?_;have H':=D H;clear H
           go_wp2
           go_roundg z
           case measure=>have:=y.out;omega
           case rel=>exact ⟨(wrap64 (b+1)),Z69,H',⟨by have:=y.out;omega⟩,⟨pk_ c.out⟩,⟨pB_ HB.out⟩⟩
         ·rw [if_neg E] at H
          exact absurd H (by simp)
        ·rw [if_neg B] at H
         exact absurd H (by simp)
       ·rw [if_neg c9] at H
        have al:decide (0 < b)=false:=decide_eq_false c9;clear c9;have H':=D H;clear H;have l:0≤(b:Int):=od_ Z68;have m:b < (a.length:Int):=od_ Z68;obtain ⟨M,u,p⟩:=Kd.at_int s.out b l m;cases u;replace p:=rc_ HB.out p;replace l:=eq_true l;replace m:=eq_true m
        go_wp2_with (first|((with_reducible refine gate_callee (f:=76) rfl ?_);refine goesL_ (some 14) rfl rfl Try.func76 (by kernel_rfl) rfl #[I L (rd a b)] rfl Z20 ?_;(with_reducible refine (impl_isFlow.calls (rd a b) true _ A.out).mono ?_);rintro e w' ⟨rfl,⟨nd,rfl⟩⟩;refine ⟨_,rfl,?_⟩))
        go_roundg z
        case measure=>have:=y.out;omega
        case rel=>exact ⟨(wrap64 (b+1)),Z69,H',⟨by have:=y.out;omega⟩,⟨pk_ c.out⟩,⟨pB_ HB.out⟩⟩
      ·replace c8:=Bool.eq_false_iff.mpr c8
       subst c8;rw [if_neg (show ¬ (false=true) by decide)] at H;obtain rfl:=Option.some.inj H;have l:0≤(b:Int):=od_ Z68;have m:b < (a.length:Int):=od_ Z68;obtain ⟨M,u,p⟩:=Kd.at_int s.out b l m;cases u;replace p:=rc_ HB.out p;replace l:=eq_true l;replace m:=eq_true m
       go_wp2_with (first|((with_reducible refine gate_callee (f:=76) rfl ?_);refine goesL_ (some 14) rfl rfl Try.func76 (by kernel_rfl) rfl #[I L (rd a b)] rfl Z20 ?_;(with_reducible refine (impl_isFlow.calls (rd a b) false _ A.out).mono ?_);rintro e w' ⟨rfl,⟨nd,rfl⟩⟩;refine ⟨_,rfl,?_⟩))
       go_ret;exact ⟨er_,pB_ HB.out⟩
     ·rw [if_neg c6] at H
      exact absurd H (by simp)
    ·rw [if_neg c5] at H
     exact absurd H (by simp)
   ·rw [if_neg c4] at H
    have aj:decide (b < (a.length:Int))=false:=decide_eq_false c4;clear c4;obtain ⟨ao,ac,H⟩:=bs_.mp H;(try dsimp only at H);have U:=D ac;clear ac
    by_cases G:ao=true
    ·subst G
     rw [if_pos rfl] at H;obtain ⟨ap,ad,H⟩:=bs_.mp H;(try dsimp only at H);have ae:=D ad;clear ad
     by_cases J:ap=true
     ·subst J
      rw [if_pos rfl] at H;obtain ⟨aq,af,H⟩:=bs_.mp H;(try dsimp only at H);have ar:=D af;clear af;obtain rfl:=Option.some.inj H;have aD:=cells6 c.out
      go_wp2_with (first|((with_reducible refine gate_callee (f:=77) rfl ?_);refine goesL_ (some 33) rfl rfl Try.func77 (by kernel_rfl) rfl #[.agg #[I L g,I L i,I L j]] rfl Z20 ?_;(with_reducible refine (impl_ChargeOk.calls g i j true _ U.out).mono ?_);rintro e aE ⟨rfl,hb⟩;refine ⟨_,rfl,?_⟩;have n_:=an_ (blk_below (pk_ c.out) hb)<|D (below_step (pB_ HB.out) hb);clear c HB;obtain ⟨c,HB⟩:=n_;(try clear hb);have aF:=cells6 c.out)|(go_at_call 78;(with_reducible refine (impl_isWeight.calls n true _ ae.out).mono ?_);rintro e w' ⟨rfl,⟨nd,rfl⟩⟩)|(go_at_call 79;(with_reducible refine (slices_Contains_int_int.calls z _ _ a o aq _ ?side1 ?side2 ar.out).mono ?_);(case side1=>exact pC_ (Kd.C_below s.out (pB_ HB.out)));(case side2=>exact ag.out);rintro e w' ⟨rfl,⟨nd,rfl⟩⟩))
      go_ret;exact ⟨er_,pB_ HB.out⟩
     ·replace J:=Bool.eq_false_iff.mpr J
      subst J;rw [if_neg (show ¬ (false=true) by decide)] at H;obtain rfl:=Option.some.inj H;have aG:=cells6 c.out
      go_wp2_with (first|((with_reducible refine gate_callee (f:=77) rfl ?_);refine goesL_ (some 33) rfl rfl Try.func77 (by kernel_rfl) rfl #[.agg #[I L g,I L i,I L j]] rfl Z20 ?_;(with_reducible refine (impl_ChargeOk.calls g i j true _ U.out).mono ?_);rintro e aH ⟨rfl,hb⟩;refine ⟨_,rfl,?_⟩;have n_:=an_ (blk_below (pk_ c.out) hb)<|D (below_step (pB_ HB.out) hb);clear c HB;obtain ⟨c,HB⟩:=n_;(try clear hb);have aI:=cells6 c.out)|(go_at_call 78;(with_reducible refine (impl_isWeight.calls n false _ ae.out).mono ?_);rintro e w' ⟨rfl,⟨nd,rfl⟩⟩))
      go_ret;exact ⟨er_,pB_ HB.out⟩
    ·replace G:=Bool.eq_false_iff.mpr G
     subst G;rw [if_neg (show ¬ (false=true) by decide)] at H;obtain rfl:=Option.some.inj H;have aJ:=cells6 c.out
     go_wp2_with (first|((with_reducible refine gate_callee (f:=77) rfl ?_);refine goesL_ (some 33) rfl rfl Try.func77 (by kernel_rfl) rfl #[.agg #[I L g,I L i,I L j]] rfl Z20 ?_;(with_reducible refine (impl_ChargeOk.calls g i j false _ U.out).mono ?_);rintro e aK ⟨rfl,hb⟩;refine ⟨_,rfl,?_⟩;have n_:=an_ (blk_below (pk_ c.out) hb)<|D (below_step (pB_ HB.out) hb);clear c HB;obtain ⟨c,HB⟩:=n_;(try clear hb)))
     go_ret;exact ⟨er_,pB_ HB.out⟩
def impl_DealsOk_1.f (k:Nat) (a b c d e:Int) (g:List Int):Option (Bool):=(impl_dealOk.f k a b c d e g).bind fun h=>(some (!h))
theorem impl_DealsOk_1.calls (k:Nat) (b c d g i:Int) (j:Option Addr) (l:Nat) (a:List Int) (r:Bool) (w:World) (o:Kd.C (Kd.int .i64) w j a.length a) (p:a.length≤l) (h:impl_DealsOk_1.f k b c d g i a=some r) :
  Calls Try.prog 62 #[.agg #[I L b,I L c,I L d,I L g,I L i,Y j a.length l]] w fun e w'=>e=.returned (.bool r)∧Below w.heap.size w w':=by
 have hu44:=Try.underlying44
 have u:=D o
 have v:=D p
 clear o p
 have HB:=D (Below.refl w.heap.size w)
 have H:((impl_dealOk.f k b c d g i a).bind fun n=>(some (!n)))=some r:=h
 clear h
 obtain ⟨n,q,H⟩:=bs_.mp H
 (try dsimp only at H)
 have x:=D q
 clear q
 obtain rfl:=Option.some.inj H
 go_enter Try.func62,Try.ntmps62
 go_wp2_with (first|((with_reducible refine gate_dst (N:=1) rfl ?_);refine bx_ (N:=1) (cs:=#[I L b,I L c,I L d,I L g,I L i,Y j a.length l]) (t:=44) ?_;intro s hg y hbox hb;have n_:=an_ (below_step (pB_ HB.out) hb)<|an_ (hbox)<|an_ (bg_ hg (pB_ HB.out):w.heap.size≤s)<|D (bg_ hg (pB_ HB.out):w.heap.size≤s);clear HB;obtain ⟨HB,m,z,A⟩:=n_;clear hb hbox hg;have B:=cells6 m.out)|((with_reducible refine gate_callee (f:=63) rfl ?_);refine goesL_ (some 4) rfl rfl Try.func63 (by kernel_rfl) rfl #[.agg #[I L b,I L c,I L d,I L g,I L i,Y j a.length l]] rfl Z20 ?_;(with_reducible refine (impl_dealOk.calls k b c d g i _ _ a n _ ?side1 ?side2 x.out).mono ?_);(case side1=>exact pC_ (Kd.C_below u.out HB.out));(case side2=>exact v.out);rintro e E ⟨rfl,hb⟩;refine ⟨_,rfl,?_⟩;have n_:=an_ (blk_below (pk_ m.out) hb)<|D (below_step (pB_ HB.out) hb);clear m HB;obtain ⟨m,HB⟩:=n_;(try clear hb)))
 go_ret
 exact ⟨er_,pB_ HB.out⟩
def impl_DealsOk.f (k:Nat) (l0:List (S44)):Option (Bool):=if (l0.length:Int)≤200 then ((slices_ContainsFunc_impl_Deal_impl_Deal.f k l0 (fun a b c d e g=>impl_DealsOk_1.f k a b c d e g)).bind fun h=>(some (!h))) else (some false)
theorem impl_DealsOk.calls (k:Nat) (l:Option Addr) (m:Nat) (l0:List (S44)) (r:Bool) (w:World) (n:Kd.C k44 w l l0.length l0) (o:l0.length≤m) (h:impl_DealsOk.f k l0=some r) :
  Calls Try.prog 41 #[Y l l0.length m] w fun e w'=>e=.returned (.bool r)∧Below w.heap.size w w':=by
 have B:=D n
 have E:=D o
 clear n o
 have HB:=D (Below.refl w.heap.size w)
 have H:(if (l0.length:Int)≤200 then ((slices_ContainsFunc_impl_Deal_impl_Deal.f k l0 (fun a b c d g i=>impl_DealsOk_1.f k a b c d g i)).bind fun j=>(some (!j))) else (some false))=some r:=h
 clear h
 by_cases c2:(l0.length:Int)≤200
 ·rw [if_pos c2] at H
  have G:decide ((l0.length:Int)≤200)=true:=decide_eq_true c2;have J:decide (l0.length≤200)=true:=decide_eq_true (by omega);clear c2;obtain ⟨j,p,H⟩:=bs_.mp H;(try dsimp only at H);have K:=D p;clear p;obtain rfl:=Option.some.inj H;go_enter Try.func41,Try.ntmps41
  go_wp2_with (first|(go_at_call 43;(with_reducible refine (slices_ContainsFunc_impl_Deal_impl_Deal.calls k _ _ l0 (fun a b c d g i=>impl_DealsOk_1.f k a b c d g i) 62 #[] j _ ?side1 ?side2 ?side3 ?side4 K.out).mono ?_);(case side1=>exact pC_ B.out);(case side2=>exact E.out);(case side3=>exact ⟨⟨_,Try.func62,by kernel_rfl,rfl⟩⟩);(case side4=>refine ⟨?_⟩;intro q s t u v x y z M W_ hW_ O P h_;refine calls_of_args (args':=#[.agg #[I L q,I L s,I L t,I L u,I L v,Y x z.length y]]) (by simp) ?_;refine (impl_DealsOk_1.calls k q s t u v x y z  M W_ O P h_).mono ?_;rintro e w' ⟨rfl,hd_⟩;exact ⟨rfl,hd_⟩);rintro e T ⟨rfl,hb⟩;have A:=D (below_step (pB_ HB.out) hb);clear HB;have HB:=A;clear A;(try clear hb)))
  go_ret;exact ⟨er_,pB_ HB.out⟩
 ·rw [if_neg c2] at H
  have G:decide ((l0.length:Int)≤200)=false:=decide_eq_false c2;have J:decide (l0.length≤200)=false:=decide_eq_false (by omega);clear c2;obtain rfl:=Option.some.inj H;go_enter Try.func41,Try.ntmps41
  go_wp2
  go_ret;exact ⟨er_,pB_ HB.out⟩
def impl_span.f (k:Nat) (l0:List (S44)) (a b:Int):Option ((List (S44))×Bool):=(impl_DealsOk.f k l0).bind fun c=>(if c=true then (if a < 0 then (some (([]:List (S44)),false)) else (if a > b then (some (([]:List (S44)),false)) else (if b > (l0.length:Int) then (some (([]:List (S44)),false)) else (if 0≤a then (if a≤b then (if b≤(l0.length:Int) then (some (((l0.take (b:Int).toNat).drop (a:Int).toNat),true)) else (none)) else (none)) else (none))))) else (some (([]:List (S44)),false)))
theorem impl_span.calls (k:Nat) (x:Nat→Prop) (i:Option Addr) (g:Nat) (l0:List (S44)) (a b:Int) (s:List (S44)) (t:Bool) (w:World) (T:Kd.V k44 44 w w.heap.size (fun k_=>x k_) (Y i l0.length g) l0) (h:impl_span.f k l0 a b=some (s,t)) :
  Calls Try.prog 22 #[Y i l0.length g,I L a,I L b] w fun e w'=>∃ B:Value,e=.returned (.tuple #[B,.bool t])∧Kd.V k44 44 w' w.heap.size (fun k_=>(x k_∨w.heap.size≤k_)) B s∧Below w.heap.size w w':=by
 have d:=D (show Kd.V k44 44 w w.heap.size (fun k_=>(x k_∨w.heap.size≤k_)) (Y i l0.length g) l0 from Kd.V_mono T (fun k_ hk=>.inl hk))
 have HB:=D (Below.refl w.heap.size w)
 have H:((impl_DealsOk.f k l0).bind fun y=>(if y=true then (if a < 0 then (some (([]:List (S44)),false)) else (if a > b then (some (([]:List (S44)),false)) else (if b > (l0.length:Int) then (some (([]:List (S44)),false)) else (if 0≤a then (if a≤b then (if b≤(l0.length:Int) then (some (((l0.take (b:Int).toNat).drop (a:Int).toNat),true)) else (none)) else (none)) else (none))))) else (some (([]:List (S44)),false))))=some (s,t):=h
 clear h
 obtain ⟨y,E,H⟩:=bs_.mp H
 (try dsimp only at H)
 have u:=D E
 clear E
 by_cases c5:y=true
 ·subst c5
  rw [if_pos rfl] at H
  by_cases c6:a < 0
  ·rw [if_pos c6] at H
   have U:decide (a < 0)=true:=decide_eq_true c6;clear c6;simp only [Option.some.injEq,Prod.mk.injEq] at H;obtain ⟨rfl,rfl⟩:=H;go_enter Try.func22,Try.ntmps22
   go_wp2_with (first|((with_reducible refine gate_callee (f:=41) rfl ?_);refine goesL_ (some 9) rfl rfl Try.func41 (by kernel_rfl) rfl #[Y i l0.length g] rfl Z20 ?_;(with_reducible refine (impl_DealsOk.calls k _ _ l0 true _ ?side1 ?side2 u.out).mono ?_);(case side1=>exact pC_ ((Kd.V_reads' d.out).2.2));(case side2=>exact (Kd.V_reads' d.out).2.1);rintro e w7 ⟨rfl,hb⟩;refine ⟨_,rfl,?_⟩;have n_:=an_ (Kd.V_below (pV_ d.out) hb)<|D (below_step (pB_ HB.out) hb);clear d HB;obtain ⟨d,HB⟩:=n_;(try clear hb)))
   go_ret2;exact ⟨_,er_,by first|exact Kd.S_nil _ _ _ _ _|exact Kd.N_nil _ _ _ _ _|exact Kd.V_nil _ _ _ _ _|exact Kd.Q_nil _ _ _ _ _|exact Kd.R_nil _ _ _ _ _,pB_ HB.out⟩
  ·rw [if_neg c6] at H
   have U:decide (a < 0)=false:=decide_eq_false c6;clear c6
   by_cases c8:a > b
   ·rw [if_pos c8] at H
    have W:decide (b < a)=true:=decide_eq_true c8;clear c8;simp only [Option.some.injEq,Prod.mk.injEq] at H;obtain ⟨rfl,rfl⟩:=H;go_enter Try.func22,Try.ntmps22
    go_wp2_with (first|((with_reducible refine gate_callee (f:=41) rfl ?_);refine goesL_ (some 9) rfl rfl Try.func41 (by kernel_rfl) rfl #[Y i l0.length g] rfl Z20 ?_;(with_reducible refine (impl_DealsOk.calls k _ _ l0 true _ ?side1 ?side2 u.out).mono ?_);(case side1=>exact pC_ ((Kd.V_reads' d.out).2.2));(case side2=>exact (Kd.V_reads' d.out).2.1);rintro e w9 ⟨rfl,hb⟩;refine ⟨_,rfl,?_⟩;have n_:=an_ (Kd.V_below (pV_ d.out) hb)<|D (below_step (pB_ HB.out) hb);clear d HB;obtain ⟨d,HB⟩:=n_;(try clear hb)))
    go_ret2;exact ⟨_,er_,by first|exact Kd.S_nil _ _ _ _ _|exact Kd.N_nil _ _ _ _ _|exact Kd.V_nil _ _ _ _ _|exact Kd.Q_nil _ _ _ _ _|exact Kd.R_nil _ _ _ _ _,pB_ HB.out⟩
   ·rw [if_neg c8] at H
    have W:decide (b < a)=false:=decide_eq_false c8;clear c8;have G:=D H;clear H;go_enter Try.func22,Try.ntmps22
    go_upto_if 25 with (first|((with_reducible refine gate_callee (f:=41) rfl ?_);refine goesL_ (some 9) rfl rfl Try.func41 (by kernel_rfl) rfl #[Y i l0.length g] rfl Z20 ?_;(with_reducible refine (impl_DealsOk.calls k _ _ l0 true _ ?side1 ?side2 u.out).mono ?_);(case side1=>exact pC_ ((Kd.V_reads' d.out).2.2));(case side2=>exact (Kd.V_reads' d.out).2.1);rintro e ae ⟨rfl,hb⟩;refine ⟨_,rfl,?_⟩;have n_:=an_ (Kd.V_below (pV_ d.out) hb)<|D (below_step (pB_ HB.out) hb);clear d HB;obtain ⟨d,HB⟩:=n_;(try clear hb)))
    have H:=G.out;clear G
    by_cases l:b > (l0.length:Int)
    ·rw [if_pos l] at H
     have z:decide ((l0.length:Int) < b)=true:=decide_eq_true l;clear l;refine rw_ z ?_;simp only [Option.some.injEq,Prod.mk.injEq] at H;obtain ⟨rfl,rfl⟩:=H
     go_wp2
     go_ret2;exact ⟨_,er_,by first|exact Kd.S_nil _ _ _ _ _|exact Kd.N_nil _ _ _ _ _|exact Kd.V_nil _ _ _ _ _|exact Kd.Q_nil _ _ _ _ _|exact Kd.R_nil _ _ _ _ _,pB_ HB.out⟩
    ·rw [if_neg l] at H
     have z:decide ((l0.length:Int) < b)=false:=decide_eq_false l;clear l;refine rw_ z ?_
     by_cases m:0≤a
     ·rw [if_pos m] at H
      have af:=eq_true m;have ag:decide (0≤a)=true:=decide_eq_true m;clear m
      by_cases n:a≤b
      ·rw [if_pos n] at H
       have ah:=eq_true n;have ai:decide (a≤b)=true:=decide_eq_true n;clear n
       by_cases o:b≤(l0.length:Int)
       ·rw [if_pos o] at H
        have aj:=eq_true o;have ak:decide (b≤(l0.length:Int))=true:=decide_eq_true o;clear o;obtain ⟨j,p⟩:∃ y_:List (S44),y_=((l0.take (b:Int).toNat).drop (a:Int).toNat):=⟨_,rfl⟩
        replace H:(some (j,true))=some (s,t):=by first|(rw [p];with_reducible exact H)|(have H2_:=(Option.bind_some _ _).symm.trans H;rw [p];with_reducible exact H2_)|(have H2_:=(Option.bind_some _ _).symm.trans H;with_reducible exact H2_)|with_reducible exact H|(rw [p];exact H)|exact H
        have J:=D p;clear p;simp only [Option.some.injEq,Prod.mk.injEq] at H;obtain ⟨rfl,rfl⟩:=H;have A:(b:Int)≤((l0.length:Int):Int):=od_ Z68;obtain ⟨i016,K,_,hsz16,_⟩:=info_parts info44;have hroom16:l0.length≤g:=(Kd.V_reads' d.out).2.1;have hC16:Kd.F k44 _ _ i l0.length l0:=(Kd.V_at (base:=w.heap.size) d.out).2.2;have ql16:(a:Int)≤(b:Int):=od_ Z68;have X:(0:Int)≤(a:Int):=od_ Z68;have hcut16:=cut_mid (P:=Try.prog) 24 44 .i64 .i64 Try.underlying24 K 6 hsz16 i l0.length g a b X ql16 A hroom16;have q:=Kd.F_mid (lo:=(a:Int).toNat) (hi:=(b:Int).toNat) (c:=g) hC16 (by omega) (by omega) hroom16;obtain ⟨M,hA16⟩:∃ Z,Z=(if g=(a:Int).toNat then i else (i:Option Addr).map (·.add ((a:Int).toNat * 6))):=⟨_,rfl⟩;obtain ⟨O,v⟩:∃ c1,c1=g - (a:Int).toNat:=⟨_,rfl⟩;have r:j.length=(b:Int).toNat - (a:Int).toNat:=(by rw [J.out,List.length_drop,List.length_take] <;> omega);rw [show ((l0).take (b:Int).toNat).drop (a:Int).toNat=j from J.out.symm] at q;replace q:Kd.F k44 _ _ M j.length j:=(by rw [hA16];exact q);rw [← r,← hA16,← v] at hcut16;have ab:=D (show Kd.V k44 44 _ w.heap.size _ (Y M j.length O) j from Kd.V_mk (by rw [r,v];exact Nat.sub_le_sub_right (Nat.le_trans (by omega) hroom16) _) q);have al:=D (show j.length≤O from by rw [r,v];exact Nat.sub_le_sub_right (Nat.le_trans (by omega) hroom16) _);clear q hC16 hroom16 K hsz16 v;have KY16:=D r;have KA16:=D hA16;clear r hA16;replace A:=eq_true A
        go_wp2
        go_ret2;exact ⟨_,er_,by (with_reducible repeat (first|apply Kd.V_alloc|apply Kd.V_drewN|apply Kd.V_drew));exact ab.out,pB_ HB.out⟩
       ·rw [if_neg o] at H
        exact absurd H (by simp)
      ·rw [if_neg n] at H
       exact absurd H (by simp)
     ·rw [if_neg m] at H
      exact absurd H (by simp)
 ·replace c5:=Bool.eq_false_iff.mpr c5
  subst c5;rw [if_neg (show ¬ (false=true) by decide)] at H;simp only [Option.some.injEq,Prod.mk.injEq] at H;obtain ⟨rfl,rfl⟩:=H;go_enter Try.func22,Try.ntmps22
  go_wp2_with (first|((with_reducible refine gate_callee (f:=41) rfl ?_);refine goesL_ (some 9) rfl rfl Try.func41 (by kernel_rfl) rfl #[Y i l0.length g] rfl Z20 ?_;(with_reducible refine (impl_DealsOk.calls k _ _ l0 false _ ?side1 ?side2 u.out).mono ?_);(case side1=>exact pC_ ((Kd.V_reads' d.out).2.2));(case side2=>exact (Kd.V_reads' d.out).2.1);rintro e am ⟨rfl,hb⟩;refine ⟨_,rfl,?_⟩;have n_:=an_ (Kd.V_below (pV_ d.out) hb)<|D (below_step (pB_ HB.out) hb);clear d HB;obtain ⟨d,HB⟩:=n_;(try clear hb)))
  go_ret2;exact ⟨_,er_,by first|exact Kd.S_nil _ _ _ _ _|exact Kd.N_nil _ _ _ _ _|exact Kd.V_nil _ _ _ _ _|exact Kd.Q_nil _ _ _ _ _|exact Kd.R_nil _ _ _ _ _,pB_ HB.out⟩
def impl_both.f (b c d e g h:Int) (a:(Int→Int→Option (Int))):Option (Int×Int×Int):=(a b e).bind fun i=>((a c g).bind fun j=>((a d h).bind fun k=>(some (i,j,k))))
def impl_both.T1:Bool×List (List Nat×List Nat):=(true,[([],[]),([],[]),([1],[1]),([],[]),([3],[3]),([0,2,4],[0,2,4]),([],[]),([],[]),([7],[7]),([],[]),([9],[9]),([6,8,10,5],[6,8,10]),([],[]),([],[]),([13],[13]),([],[]),([15],[15]),([12,14,16,11],[12,14,16]),([5,11,17],[5,11,17]),([18,17,0,1,2,3,4,5,6,7,8,9,10,11,12,13,14,15,16,17,18],[18])])
def impl_both.B1:List Nat:=[0,0,2,0,8,31,0,0,128,0,512,2047,0,0,8192,0,32768,131071,262143,524287]
theorem impl_both.tab1:rtab .any (opsOf Try.f64 1)=impl_both.T1:=by kernel_rfl
theorem impl_both.bits1:waitsOk impl_both.T1.2 impl_both.B1=true:=by kernel_rfl
theorem impl_both.calls (k l m o p q : Int) (u : (Int → Int → Option (Int))) (A : Nat) (v : Array Value) (B E G : Int) (w : World) (hq2 : Aside0 (∃ F_, Try.prog.funcs[A]? = some F_ ∧ (F_.name == "runtime.NumGoroutine") = false ∧ F_.body.isSome = true)) (HP2_64 : Aside0 (∀ (P T U : Int) (W_ : World), Below w.heap.size w W_ → u P T = some U → Calls Try.prog A (#[I L P, I L T] ++ v) W_ (fun e w' => e = .returned (I L U) ∧ Below W_.heap.size W_ w'))) (h : impl_both.f k l m o p q u = some (B, E, G)) :
  Calls Try.prog 64 #[.agg #[I L k,I L l,I L m],.agg #[I L o,I L p,I L q],.func (.func A) #[] v] w fun e w'=>e=.returned (.agg #[I L B,I L E,I L G])∧Below w.heap.size w w':=by
 have hu29:=Try.underlying29
 have HB:=D (Below.refl w.heap.size w)
 have H:((u k o).bind fun x=>((u l p).bind fun y=>((u m q).bind fun z=>(some (x,y,z)))))=some (B,E,G):=h
 clear h
 obtain ⟨x,W,H⟩:=bs_.mp H
 (try dsimp only at H)
 have A4:=D W
 clear W
 obtain ⟨y,X,H⟩:=bs_.mp H
 (try dsimp only at H)
 have A5:=D X
 clear X
 obtain ⟨z,Z,H⟩:=bs_.mp H
 (try dsimp only at H)
 have A6:=D Z
 clear Z
 simp only [Option.some.injEq,Prod.mk.injEq] at H
 obtain ⟨rfl,rfl,rfl⟩:=H
 go_enter Try.func64,Try.ntmps64
 try go_wp2_with (first|((with_reducible refine gate_dst (N:=3) rfl ?_);refine bx_ (N:=3) (cs:=#[I L k,I L l,I L m]) (t:=29) ?_;intro g hg w7 hbox hb;have n_:=an_ (below_step (pB_ HB.out) hb)<|an_ (hbox)<|an_ (bg_ hg (pB_ HB.out):w.heap.size≤g)<|D (bg_ hg (pB_ HB.out):w.heap.size≤g);clear HB;obtain ⟨HB,a,ag,ah⟩:=n_;clear hb hbox hg)|((with_reducible refine gate_dst (N:=4) rfl ?_);refine bx_ (N:=4) (cs:=#[I L o,I L p,I L q]) (t:=29) ?_;intro j hg w8 hbox hb;have n_:=an_ (blk_below (pk_ a.out) hb)<|an_ (below_step (pB_ HB.out) hb)<|an_ (hbox)<|an_ (bg_ hg (pB_ HB.out):w.heap.size≤j)<|an_ (bg_ hg (pB_ HB.out):w.heap.size≤j)<|an_ (nl_ hg (pk_ a.out):g≠j)<|D (by rw [hg];exact Nat.ne_of_gt (blk_lt (pk_ a.out)):j≠g);clear a HB;obtain ⟨a,HB,b,aj,ak,al,am⟩:=n_;clear hb hbox hg)|((with_reducible refine gate_dst (N:=6) rfl ?_);refine bx_ (N:=6) (cs:=#[I L 0,I L 0,I L 0]) (t:=29) ?_;intro d hg w9 hbox hb;have n_:=an_ (blk_below (pk_ a.out) hb)<|an_ (blk_below (pk_ b.out) hb)<|an_ (below_step (pB_ HB.out) hb)<|an_ (hbox)<|an_ (bg_ hg (pB_ HB.out):w.heap.size≤d)<|an_ (bg_ hg (pB_ HB.out):w.heap.size≤d)<|an_ (nl_ hg (pk_ a.out):g≠d)<|an_ (ng_ hg (pk_ a.out):d≠g)<|an_ (nl_ hg (pk_ b.out):j≠d)<|D (by rw [hg];exact Nat.ne_of_gt (blk_lt (pk_ b.out)):d≠j);clear a b HB;obtain ⟨a,b,HB,c,an,ao,r,J,s,M⟩:=n_;clear hb hbox hg))
 have n_:=an_ (blk_drew a.out)<|an_ (blk_drew b.out)<|an_ (blk_drew c.out)<|D (below_drew1 HB.out)
 clear a b c HB
 obtain ⟨a,b,c,HB⟩:=n_
 refine start_ (n:=20) (S:=fun w'=>w'.cell? ⟨g,0,none⟩=some (I L k)∧w'.cell? ⟨g,1,none⟩=some (I L l)∧w'.cell? ⟨g,2,none⟩=some (I L m)∧w'.cell? ⟨j,0,none⟩=some (I L o)∧w'.cell? ⟨j,1,none⟩=some (I L p)∧w'.cell? ⟨j,2,none⟩=some (I L q)) (ds:=[]) (bz 20 0) (by kernel_rfl) rfl (by kernel_rfl) (bk3_ a.out (be3_ b.out)) (fun hHeld=>?_);refine with_tabW impl_both.tab1 impl_both.bits1 (fun HT_ HW_=>?_)
 generalize w9.drew=ap at a b c HB hHeld ⊢
 refine pb_ 0 ?_
 refine pb_ 1 ?_
 refine pb_ 3 ?_
 refine pb_ 6 ?_
 refine pb_ 7 ?_
 refine pb_ 9 ?_
 refine pb_ 12 ?_
 refine pb_ 13 ?_
 refine pb_ 15 ?_
 refine tb_ 2 rfl rfl hHeld Z65 ?_
 refine tb_ 4 rfl rfl hHeld Z65 ?_
 refine tb_ 8 rfl rfl hHeld Z65 ?_
 refine tb_ 10 rfl rfl hHeld Z65 ?_
 refine tb_ 14 rfl rfl hHeld Z65 ?_
 refine tb_ 16 rfl rfl hHeld Z65 ?_
 refine oa_ 5 12 20 129023 HT_ (fun K hK=>?_)
 obtain ⟨_,hF1_,hF2_,hF3_⟩:=hq2.out
 refine goesV_ hF1_ hF2_ hF3_ #[I L k,I L o] (cp:=v) (by rfl) rfl rfl Z71 Z20 ?_
 with_reducible refine (HP2_64.out k o x _ ?side1 A4.out).mono ?_
 (case side1=>exact pB_ HB.out)
 rintro e aq ⟨rfl,hb⟩
 refine ⟨_,rfl,?_⟩
 have n_:=an_ (blk_below (pk_ a.out) hb)<|an_ (blk_below (pk_ b.out) hb)<|an_ (blk_below (pk_ c.out) hb)<|D (below_step (pB_ HB.out) hb)
 clear a b c HB
 obtain ⟨a,b,c,HB⟩:=n_
 (try clear hb)
 (try clear aa)
 (try clear hk)
 (try clear hi)
 refine hK.out _ _ (bk3_ a.out (be3_ b.out)) (fun hHeld=>?_)
 clear hK K
 refine nx_ (N:=some 12) ?_
 refine oa_ 11 18 20 131071 HT_ (fun K hK=>?_)
 obtain ⟨_,hF1_,hF2_,hF3_⟩:=hq2.out
 refine goesV_ hF1_ hF2_ hF3_ #[I L l,I L p] (cp:=v) (by rfl) rfl rfl Z71 Z20 ?_
 with_reducible refine (HP2_64.out l p y _ ?side1 A5.out).mono ?_
 (case side1=>exact pB_ HB.out)
 rintro e ar ⟨rfl,hb⟩
 refine ⟨_,rfl,?_⟩
 have n_:=an_ (blk_below (pk_ a.out) hb)<|an_ (blk_below (pk_ b.out) hb)<|an_ (blk_below (pk_ c.out) hb)<|D (below_step (pB_ HB.out) hb)
 clear a b c HB
 obtain ⟨a,b,c,HB⟩:=n_
 (try clear hb)
 (try clear aa)
 (try clear hk)
 (try clear hi)
 refine hK.out _ _ (bk3_ a.out (be3_ b.out)) (fun hHeld=>?_)
 clear hK K
 refine nx_ (N:=some 18) ?_
 refine oa_ 17 24 20 262143 HT_ (fun K hK=>?_)
 obtain ⟨_,hF1_,hF2_,hF3_⟩:=hq2.out
 refine goesV_ hF1_ hF2_ hF3_ #[I L m,I L q] (cp:=v) (by rfl) rfl rfl Z71 Z20 ?_
 with_reducible refine (HP2_64.out m q z _ ?side1 A6.out).mono ?_
 (case side1=>exact pB_ HB.out)
 rintro e O ⟨rfl,hb⟩
 refine ⟨_,rfl,?_⟩
 have n_:=an_ (blk_below (pk_ a.out) hb)<|an_ (blk_below (pk_ b.out) hb)<|an_ (blk_below (pk_ c.out) hb)<|D (below_step (pB_ HB.out) hb)
 clear a b c HB
 obtain ⟨a,b,c,HB⟩:=n_
 (try clear hb)
 (try clear aa)
 (try clear hk)
 (try clear hi)
 refine hK.out _ _ (bk3_ a.out (be3_ b.out)) (fun hHeld=>?_)
 clear hK K
 refine nx_ (N:=some 24) ?_
 refine pb_ 18 ?_
 refine one_ (i:=19) (N:=none) (bz 20 1048575) rfl rfl (one_of HT_.out (by kernel_rfl)) (by decide) (fun K hK=>?_)
 have au:O.cell? ⟨d,0,none⟩=some (I L 0):=(bc_ c.out 0)
 have av:=blk_frozen c.out 0
 have aw:=r.out
 have ax:=s.out
 have ay:=J.out
 have az:=M.out
 have aA:O.cell? ⟨d,1,none⟩=some (I L 0):=(bc_ c.out 1)
 have aB:=blk_frozen c.out 1
 have aC:=r.out
 have aD:=s.out
 have aE:=J.out
 have aF:=M.out
 have aG:O.cell? ⟨d,2,none⟩=some (I L 0):=(bc_ c.out 2)
 have aH:=blk_frozen c.out 2
 have aI:=r.out
 have aJ:=s.out
 have aK:=J.out
 have aL:=M.out
 refine skip_ (w1:=?_) (by rfl) rfl ?_ ?_
 rotate_left
 ·go_simp
  rfl
 refine hK.out _ _ ⟨(cF_ r.out (hHeld.1)),(cF_ r.out (hHeld.2.1)),(cF_ r.out (hHeld.2.2.1)),(cF_ s.out (hHeld.2.2.2.1)),(cF_ s.out (hHeld.2.2.2.2.1)),(cF_ s.out (hHeld.2.2.2.2.2))⟩ (fun hHeld=>?_)
 clear hK K
 refine done_ (done_of HT_.out (by kernel_rfl)) ?_
 try go_wp2
 refine bodyPost_ret (results_cell_row rfl _ _ d 29 #[I L x,I L y,I L z] (0,0) _ rfl (by exact pP_ c.out) Try.underlying29 rfl (by kernel_rfl)) rfl ?_
 exact ⟨er_,pB_ HB.out⟩
def impl_Vec_plus_1.f (a b:Int):Option (Int):=some (wrap64 (a+b))
theorem impl_Vec_plus_1.calls (a b r:Int) (w:World) (h:impl_Vec_plus_1.f a b=some r) :
  Calls Try.prog 65 #[I L a,I L b] w fun e w'=>e=.returned (I L r)∧Drawn0 w w':=by
 have H:(some (wrap64 (a+b)))=some r:=h
 clear h
 obtain rfl:=Option.some.inj H
 go_enter Try.func65,Try.ntmps65
 go_wp2
 go_ret
 exact ⟨by first | rfl | (simp;done) | (simp [*];done),by repeat (first | exact Drawn0.refl _ | apply Drawn0.step)⟩
def impl_Vec_plus.f (b c d e g h:Int):Option (Int×Int×Int):=(impl_both.f b c d e g h (fun i j=>impl_Vec_plus_1.f i j)).bind fun a=>(some (a.1,a.2.1,a.2.2))
theorem impl_Vec_plus.calls (d g i j k l p q r:Int) (w:World) (h:impl_Vec_plus.f d g i j k l=some (p,q,r)) :
  Calls Try.prog 42 #[.agg #[I L d,I L g,I L i],.agg #[I L j,I L k,I L l]] w fun e w'=>e=.returned (.agg #[I L p,I L q,I L r])∧Below w.heap.size w w':=by
 have hu29:=Try.underlying29
 have HB:=D (Below.refl w.heap.size w)
 have H:((impl_both.f d g i j k l (fun s u=>impl_Vec_plus_1.f s u)).bind fun v=>(some (v.1,v.2.1,v.2.2)))=some (p,q,r):=h
 clear h
 obtain ⟨⟨x,y,z⟩,A,H⟩:=bs_.mp H
 (try dsimp only at H)
 have G:=D A
 clear A
 simp only [Option.some.injEq,Prod.mk.injEq] at H
 obtain ⟨rfl,rfl,rfl⟩:=H
 go_enter Try.func42,Try.ntmps42
 go_wp2_with (first|((with_reducible refine gate_dst (N:=2) rfl ?_);refine bx_ (N:=2) (cs:=#[I L d,I L g,I L i]) (t:=29) ?_;intro m hg W hbox hb;have n_:=an_ (below_step (pB_ HB.out) hb)<|an_ (hbox)<|an_ (bg_ hg (pB_ HB.out):w.heap.size≤m)<|D (bg_ hg (pB_ HB.out):w.heap.size≤m);clear HB;obtain ⟨HB,a,X,Z⟩:=n_;clear hb hbox hg)|((with_reducible refine gate_dst (N:=3) rfl ?_);refine bx_ (N:=3) (cs:=#[I L j,I L k,I L l]) (t:=29) ?_;intro n hg w5 hbox hb;have n_:=an_ (blk_below (pk_ a.out) hb)<|an_ (below_step (pB_ HB.out) hb)<|an_ (hbox)<|an_ (bg_ hg (pB_ HB.out):w.heap.size≤n)<|an_ (bg_ hg (pB_ HB.out):w.heap.size≤n)<|an_ (nl_ hg (pk_ a.out):m≠n)<|D (by rw [hg];exact Nat.ne_of_gt (blk_lt (pk_ a.out)):n≠m);clear a HB;obtain ⟨a,HB,b,ab,ac,J,K⟩:=n_;clear hb hbox hg)|((with_reducible refine gate_dst (N:=4) rfl ?_);refine bx_ (N:=4) (cs:=#[I L 0,I L 0,I L 0]) (t:=29) ?_;intro c hg w6 hbox hb;have n_:=an_ (blk_below (pk_ a.out) hb)<|an_ (blk_below (pk_ b.out) hb)<|an_ (below_step (pB_ HB.out) hb)<|an_ (hbox)<|an_ (bg_ hg (pB_ HB.out):w.heap.size≤c)<|an_ (bg_ hg (pB_ HB.out):w.heap.size≤c)<|an_ (nl_ hg (pk_ a.out):m≠c)<|an_ (ng_ hg (pk_ a.out):c≠m)<|an_ (nl_ hg (pk_ b.out):n≠c)<|D (by rw [hg];exact Nat.ne_of_gt (blk_lt (pk_ b.out)):c≠n);clear a b HB;obtain ⟨a,b,HB,o,ae,af,M,O,P,T⟩:=n_;clear hb hbox hg;(try have:=J.out);(try have:=K.out);(try have:=M.out);(try have:=O.out);have ag:=cells3 a.out;(try have:=P.out);(try have:=T.out);have ah:=cells3 b.out)|((with_reducible refine gate_callee (f:=64) rfl ?_);refine goesL_ (some 7) rfl rfl Try.func64 (by kernel_rfl) rfl #[.agg #[I L d,I L g,I L i],.agg #[I L j,I L k,I L l],.func (.func 65) #[] #[]] rfl Z20 ?_;(with_reducible refine (impl_both.calls d g i j k l (fun s u=>impl_Vec_plus_1.f s u) 65 #[] x y z _ ?side1 ?side2 G.out).mono ?_);(case side1=>exact ⟨⟨_,Try.func65,by kernel_rfl,rfl⟩⟩);(case side2=>refine ⟨?_⟩;intro B E U W_ hW_ h_;refine calls_of_args (args':=#[I L B,I L E]) (by simp) ?_;refine (impl_Vec_plus_1.calls B E  U W_ h_).mono ?_;rintro e w' ⟨rfl,hd_⟩;exact ⟨rfl,hd_.below⟩);rintro e ai ⟨rfl,hb⟩;refine ⟨_,rfl,?_⟩;have n_:=an_ (blk_below (pk_ a.out) hb)<|an_ (blk_below (pk_ b.out) hb)<|an_ (blk_below (pk_ o.out) hb)<|D (below_step (pB_ HB.out) hb);clear a b o HB;obtain ⟨a,b,o,HB⟩:=n_;(try clear hb);have aj:=cells3 o.out))
 refine bodyPost_ret (results_cell_row rfl _ _ c 29 #[I L x,I L y,I L z] (0,0) _ rfl (by exact pP_ o.out) Try.underlying29 rfl (by kernel_rfl)) rfl ?_
 exact ⟨er_,pB_ HB.out⟩
end Go.Proofs.Ytpkdkhhknmlpjaa.PFnTakenAdds
