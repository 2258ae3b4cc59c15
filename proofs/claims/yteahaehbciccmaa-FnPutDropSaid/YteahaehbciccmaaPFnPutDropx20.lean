-- by a program of this session's, over the kit's words
import Derived.Test.YteahaehbciccmaaPZFnPutDrop
import Derived.Test.YteahaehbciccmaaPFnPutDropx0
import Derived.Test.YteahaehbciccmaaPFnPutDropx2
import Derived.Test.YteahaehbciccmaaPFnPutDropx15
import Derived.Test.YteahaehbciccmaaPFnPutDropx16
import Derived.Test.YteahaehbciccmaaPFnPutDropx19
namespace Go.Proofs.Yteahaehbciccmaa.PFnPutDrop
open Go.RowKit Go.Proofs.YteahaehbciccmaaW.PrintWords Go.Proofs.YteahaehbciccmaaW.PrintLast Go.Proofs.YteahaehbciccmaaW.PrintMore Go.Proofs.YteahaehbciccmaaV Go.Proofs.Yteahaehbciccmaa.ZFnPutDrop
open Go.Value renaming int → I, slice → Y
open Go.IntKind renaming i64 → L
open Aside0 renaming mk → D
open Option renaming bind_eq_some_iff → bs_
attribute [local go_sem] qad_ qab_ qak_ qaj_ q4_ q3_ qac_ qaa_
set_option linter.unusedVariables false
set_option linter.unusedSimpArgs false
set_option maxHeartbeats 8000000
set_option maxRecDepth 100000
attribute [local go_sem high] eqA52
mutual
def impl_TableOk.j0:Nat→Bool→Int→List (S52)→Option (Bool)
 | 0,_,_,_=>none
 | k+1,g,d,c=>if g=true then (some false) else (impl_TableOk.l0 k c (c.length:Int) 0 d c)
def impl_TableOk.l0:Nat→List (S52)→Int→Int→Int→List (S52)→Option (Bool)
 | 0,_,_,_,_,_=>none
 | k+1,b,e,a,d,c=>if a < e then (if 0≤a then (if a < (b.length:Int) then (if ((qa_ b a).f0=true) then ((impl_FlowKeyOk.f k ((qa_ b a).f1.f0) ((qa_ b a).f1.f1.f0.f0) ((qa_ b a).f1.f1.f0.f1) ((qa_ b a).f1.f1.f0.f2) ((qa_ b a).f1.f1.f0.f3) ((qa_ b a).f1.f1.f0.f4) ((qa_ b a).f1.f1.f1.f0) ((qa_ b a).f1.f1.f1.f1) ((qa_ b a).f1.f1.f1.f2) ((qa_ b a).f1.f1.f1.f3) ((qa_ b a).f1.f1.f1.f4) ((qa_ b a).f1.f1.f2) ((qa_ b a).f1.f1.f3) ((qa_ b a).f1.f1.f4)).bind fun h=>(if h=true then ((impl_within.f ((qa_ b a).f2) 0 1000000000000).bind fun i=>(if i=true then ((impl_Table_probe.f k d c ((qa_ b a).f1.f0) ((qa_ b a).f1.f1.f0.f0) ((qa_ b a).f1.f1.f0.f1) ((qa_ b a).f1.f1.f0.f2) ((qa_ b a).f1.f1.f0.f3) ((qa_ b a).f1.f1.f0.f4) ((qa_ b a).f1.f1.f1.f0) ((qa_ b a).f1.f1.f1.f1) ((qa_ b a).f1.f1.f1.f2) ((qa_ b a).f1.f1.f1.f3) ((qa_ b a).f1.f1.f1.f4) ((qa_ b a).f1.f1.f2) ((qa_ b a).f1.f1.f3) ((qa_ b a).f1.f1.f4)).bind fun j=>(if j=a then (impl_TableOk.l0 k b e (wrap64 (a+1)) d c) else (some false))) else (some false))) else (some false))) else (if (((qa_ b a).f0) || ((!(((qa_ b a).f1.f0) == 0) || (((!(((qa_ b a).f1.f1.f0.f0) == 0) || (!(((qa_ b a).f1.f1.f0.f1) == 0) || (!(((qa_ b a).f1.f1.f0.f2) == 0) || (!(((qa_ b a).f1.f1.f0.f3) == 0) || (!(((qa_ b a).f1.f1.f0.f4) == 0)))))) || ((!(((qa_ b a).f1.f1.f1.f0) == 0) || (!(((qa_ b a).f1.f1.f1.f1) == 0) || (!(((qa_ b a).f1.f1.f1.f2) == 0) || (!(((qa_ b a).f1.f1.f1.f3) == 0) || (!(((qa_ b a).f1.f1.f1.f4) == 0)))))) || (!(((qa_ b a).f1.f1.f2) == 0) || (!(((qa_ b a).f1.f1.f3) == 0) || (!(((qa_ b a).f1.f1.f4) == 0)))))))) || (!(((qa_ b a).f2) == 0))))=true then (some false) else (impl_TableOk.l0 k b e (wrap64 (a+1)) d c))) else (none)) else (none)) else (some true)
end
def impl_TableOk.f (k:Nat) (b:Int) (a:List (S52)):Option (Bool):=(impl_within.f b 0 4294967295).bind fun c=>(if c=true then ((impl_isCells.f (a.length:Int)).bind fun d=>(if d=true then ((impl_Table_used.f k b a).bind fun e=>(impl_TableOk.j0 k (decide ((wrap64 (4 * e)) > (wrap64 (3 * (a.length:Int))))) b a)) else (impl_TableOk.j0 k true b a))) else (impl_TableOk.j0 k true b a))
def impl_TableOk.T1:Bool×List (List Nat×List Nat):=(true,[([],[]),([0],[0]),([1],[1]),([2],[2]),([3,2],[3]),([4],[4]),([5,4],[4,5]),([6,4],[4,6]),([7,4,4],[4,7]),([8,4],[4,8]),([4,9],[4,9]),([10,8],[10]),([11],[11]),([12,11,11],[11,12]),([13,11],[11,13]),([11],[11]),([15,11],[11,15]),([16,11],[11,16]),([17,11],[11,17]),([14,18,11],[11,14,18]),([11,19],[11,19])])
def impl_TableOk.B1:List Nat:=[0,1,3,7,15,31,63,127,255,511,1023,2047,4095,8191,16383,4095,36863,102399,233471,524287,1048575]
theorem impl_TableOk.tab1:rtab .any (opsOf Try.f23 1)=impl_TableOk.T1:=by kernel_rfl
theorem impl_TableOk.bits1:q8_ impl_TableOk.T1.2 impl_TableOk.B1=true:=by kernel_rfl
theorem impl_TableOk.calls (k:Nat) (b:Int) (g:Option Addr) (c:Nat) (a:List (S52)) (r:Bool) (w:World) (W:Kd.C k52 w g a.length a) (X:a.length≤c) (h:impl_TableOk.f k b a=some r) :
  Calls Try.prog 23 #[.agg #[I L b,Y g a.length c]] w fun e w'=>e=.returned (.bool r)∧Below w.heap.size w w':=by
 have hu26:=Try.underlying26
 have hu52:=Try.underlying52
 have hu32:=Try.underlying32
 have z:=D W
 have Z:=D X
 clear W X
 have HB:=D (Below.refl w.heap.size w)
 have H:((impl_within.f b 0 4294967295).bind fun Xb=>(if Xb=true then ((impl_isCells.f (a.length:Int)).bind fun Jc=>(if Jc=true then ((impl_Table_used.f k b a).bind fun Ob=>(impl_TableOk.j0 k (decide ((wrap64 (4 * Ob)) > (wrap64 (3 * (a.length:Int))))) b a)) else (impl_TableOk.j0 k true b a))) else (impl_TableOk.j0 k true b a)))=some r:=h
 clear h
 have A:=D H
 clear H
 go_enter Try.func23,Try.ntmps23
 go_upto_region 1 with (first|((with_reducible refine gld_ 32 rfl ?_);refine qm_ ?_)|((with_reducible refine gld_ 3 rfl ?_);refine lc3_ ?_)|((with_reducible refine gld_ 4 rfl ?_);refine lc4_ ?_)|((with_reducible refine gst_ 52 rfl ?_);refine sa52_ ?_)|((with_reducible refine gld_ 52 rfl ?_);refine la52_ ?_)|((with_reducible refine qg_ (N:=1) rfl ?_);(try (refine qam_ (by rfl) ?_;dsimp only));refine bx_ (N:=1) (cs:=#[I L b,Y g a.length c]) (t:=26) ?_;intro Xa hg B hbox hb;have n_:=an_ (qc_ (pB_ HB.out) hb)<|an_ (hbox)<|an_ (bg_ hg (pB_ HB.out):w.heap.size≤Xa)<|D (bg_ hg (pB_ HB.out):w.heap.size≤Xa);clear HB;obtain ⟨HB,Ma,Md,Od⟩:=n_;clear hb hbox hg))
 (try simp only [Act.put,List.setIfInBounds_toArray,List.set_cons_zero,List.set_cons_succ])
 go_cut [25] (fun aF wc=>∃ (kq:Nat) (Ub:Bool),aF=.bool Ub∧Aside0 (impl_TableOk.j0 kq Ub b a=some r)∧Aside0 (kq≤k)∧Aside0 (wc.heap[Xa]?=some (.cells #[I L b,(Y g a.length c)] 26 (0,0)))∧Aside0 (Below w.heap.size w wc))
 case first =>
  have H:=A.out;clear A;obtain ⟨Xb,aa,H⟩:=bs_.mp H;(try dsimp only at H);have E:=D aa;clear aa
  by_cases c5:Xb=true
  ·subst c5
   rw [if_pos rfl] at H;obtain ⟨Jc,ab,H⟩:=bs_.mp H;(try dsimp only at H);have A6:=D ab;clear ab
   by_cases c7:Jc=true
   ·subst c7
    rw [if_pos rfl] at H;obtain ⟨Ob,ad,H⟩:=bs_.mp H;(try dsimp only at H);have A8:=D ad;clear ad;have H':=D H;clear H
    try go_wp2_with (first|((with_reducible refine gld_ 32 rfl ?_);refine qm_ ?_)|((with_reducible refine gld_ 3 rfl ?_);refine lc3_ ?_)|((with_reducible refine gld_ 4 rfl ?_);refine lc4_ ?_)|((with_reducible refine gst_ 52 rfl ?_);refine sa52_ ?_)|((with_reducible refine gld_ 52 rfl ?_);refine la52_ ?_))
    have n_:=an_ (qt_ Ma.out)<|D (qr_ HB.out)
    clear Ma HB;obtain ⟨Ma,HB⟩:=n_;refine qaw_ (n:=21) (S:=fun w'=>w'.cell? ⟨Xa,0,none⟩=some (I L b)∧w'.cell? ⟨Xa,1,none⟩=some (Y g a.length c)) (ds:=[]) (bz 21 0) (by kernel_rfl) rfl (by kernel_rfl) (be2_ Ma.out) (fun hHeld=>?_);refine q6_ impl_TableOk.tab1 impl_TableOk.bits1 (fun HT_ HW_=>?_);generalize B.drew=w9 at Ma HB hHeld ⊢;refine pb_ 0 ?_;refine tb_ 1 rfl rfl hHeld Z23 ?_;refine oa_ 2 7 21 7 HT_ (fun K hK=>?_);refine goes_ Try.func25 (by kernel_rfl) rfl #[I L b,I L 0,I L 4294967295] (by rfl) rfl rfl Z12 ?_;with_reducible refine (impl_within.calls b 0 4294967295 true _ E.out).mono ?_
    rintro e w' ⟨rfl,⟨nd,rfl⟩⟩;refine ⟨_,rfl,?_⟩;refine hK.out _ _ (be2_ Ma.out) (fun hHeld=>?_);clear hK K;refine nx_ (N:=some 7) ?_;refine pb_ 3 ?_;refine pb_ 4 ?_;refine pb_ 5 ?_;refine tb_ 6 rfl rfl hHeld Z23 ?_;refine pb_ 7 ?_;refine oa_ 8 13 21 511 HT_ (fun K hK=>?_);refine goes_ Try.func35 (by kernel_rfl) rfl #[I L (a.length:Int)] (by rfl) rfl rfl Z12 ?_;with_reducible refine (impl_isCells.calls (a.length:Int) true _ A6.out).mono ?_
    rintro e w' ⟨rfl,⟨nd,rfl⟩⟩;refine ⟨_,rfl,?_⟩;refine hK.out _ _ (be2_ Ma.out) (fun hHeld=>?_);clear hK K;refine nx_ (N:=some 13) ?_;refine pb_ 9 ?_;refine pb_ 10 ?_;refine pb_ 11 ?_;refine pb_ 15 ?_;refine tb_ 12 rfl rfl hHeld Z23 ?_;refine tb_ 16 rfl rfl hHeld Z23 ?_;refine pb_ 17 ?_;refine pb_ 18 ?_;refine oa_ 13 18 21 507903 HT_ (fun K hK=>?_);refine goes_ Try.func36 (by kernel_rfl) rfl #[.agg #[I L b,Y g a.length c]] (by rfl) rfl rfl Z12 ?_;with_reducible refine (impl_Table_used.calls k b _ _ a Ob _ ?side1 ?side2 A8.out).mono ?_
    (case side1=>exact pC_ (Kd.C_below z.out (pB_ HB.out)));(case side2=>exact Z.out);rintro e aO ⟨rfl,hb⟩;refine ⟨_,rfl,?_⟩
    have n_:=an_ (qb_ (pk_ Ma.out) hb)<|D (qc_ (pB_ HB.out) hb)
    clear Ma HB;obtain ⟨Ma,HB⟩:=n_;refine hK.out _ _ (be2_ Ma.out) (fun hHeld=>?_);clear hK K;refine nx_ (N:=some 18) ?_;refine pb_ 14 ?_;refine pb_ 19 ?_;refine pb_ 20 ?_;refine done_ (qaq_ HT_.out (by kernel_rfl)) ?_
    try go_wp2_with (first|((with_reducible refine gld_ 32 rfl ?_);refine qm_ ?_)|((with_reducible refine gld_ 3 rfl ?_);refine lc3_ ?_)|((with_reducible refine gld_ 4 rfl ?_);refine lc4_ ?_)|((with_reducible refine gst_ 52 rfl ?_);refine sa52_ ?_)|((with_reducible refine gld_ 52 rfl ?_);refine la52_ ?_))
    go_meet
    case rel=>exact ⟨_,(decide ((wrap64 (4 * Ob)) > (wrap64 (3 * (a.length:Int))))),Z35,H',⟨by first | omega | exact Nat.le_refl _⟩,⟨pk_ Ma.out⟩,⟨pB_ HB.out⟩⟩
   ·replace c7:=Bool.eq_false_iff.mpr c7
    subst c7;rw [if_neg (show ¬ (false=true) by decide)] at H;have H':=D H;clear H
    try go_wp2_with (first|((with_reducible refine gld_ 32 rfl ?_);refine qm_ ?_)|((with_reducible refine gld_ 3 rfl ?_);refine lc3_ ?_)|((with_reducible refine gld_ 4 rfl ?_);refine lc4_ ?_)|((with_reducible refine gst_ 52 rfl ?_);refine sa52_ ?_)|((with_reducible refine gld_ 52 rfl ?_);refine la52_ ?_))
    have n_:=an_ (qt_ Ma.out)<|D (qr_ HB.out)
    clear Ma HB;obtain ⟨Ma,HB⟩:=n_;refine qaw_ (n:=21) (S:=fun w'=>w'.cell? ⟨Xa,0,none⟩=some (I L b)∧w'.cell? ⟨Xa,1,none⟩=some (Y g a.length c)) (ds:=[]) (bz 21 0) (by kernel_rfl) rfl (by kernel_rfl) (be2_ Ma.out) (fun hHeld=>?_);refine q6_ impl_TableOk.tab1 impl_TableOk.bits1 (fun HT_ HW_=>?_);generalize B.drew=aP at Ma HB hHeld ⊢;refine pb_ 0 ?_;refine tb_ 1 rfl rfl hHeld Z23 ?_;refine oa_ 2 7 21 7 HT_ (fun K hK=>?_);refine goes_ Try.func25 (by kernel_rfl) rfl #[I L b,I L 0,I L 4294967295] (by rfl) rfl rfl Z12 ?_;with_reducible refine (impl_within.calls b 0 4294967295 true _ E.out).mono ?_
    rintro e w' ⟨rfl,⟨nd,rfl⟩⟩;refine ⟨_,rfl,?_⟩;refine hK.out _ _ (be2_ Ma.out) (fun hHeld=>?_);clear hK K;refine nx_ (N:=some 7) ?_;refine pb_ 3 ?_;refine pb_ 4 ?_;refine pb_ 5 ?_;refine tb_ 6 rfl rfl hHeld Z23 ?_;refine pb_ 7 ?_;refine oa_ 8 13 21 511 HT_ (fun K hK=>?_);refine goes_ Try.func35 (by kernel_rfl) rfl #[I L (a.length:Int)] (by rfl) rfl rfl Z12 ?_;with_reducible refine (impl_isCells.calls (a.length:Int) false _ A6.out).mono ?_
    rintro e w' ⟨rfl,⟨nd,rfl⟩⟩;refine ⟨_,rfl,?_⟩;refine hK.out _ _ (be2_ Ma.out) (fun hHeld=>?_);clear hK K;refine nx_ (N:=some 13) ?_;refine pb_ 9 ?_;refine pb_ 10 ?_;refine pb_ 11 ?_;refine ob_ 12 ?_;refine ob_ 13 ?_;refine ob_ 14 ?_;refine ob_ 15 ?_;refine ob_ 16 ?_;refine ob_ 17 ?_;refine ob_ 18 ?_;refine ob_ 19 ?_;refine pb_ 20 ?_;refine done_ (qaq_ HT_.out (by kernel_rfl)) ?_
    try go_wp2_with (first|((with_reducible refine gld_ 32 rfl ?_);refine qm_ ?_)|((with_reducible refine gld_ 3 rfl ?_);refine lc3_ ?_)|((with_reducible refine gld_ 4 rfl ?_);refine lc4_ ?_)|((with_reducible refine gst_ 52 rfl ?_);refine sa52_ ?_)|((with_reducible refine gld_ 52 rfl ?_);refine la52_ ?_))
    go_meet
    case rel=>exact ⟨_,(true),Z35,H',⟨by first | omega | exact Nat.le_refl _⟩,⟨pk_ Ma.out⟩,⟨pB_ HB.out⟩⟩
  ·replace c5:=Bool.eq_false_iff.mpr c5
   subst c5;rw [if_neg (show ¬ (false=true) by decide)] at H;have H':=D H;clear H
   try go_wp2_with (first|((with_reducible refine gld_ 32 rfl ?_);refine qm_ ?_)|((with_reducible refine gld_ 3 rfl ?_);refine lc3_ ?_)|((with_reducible refine gld_ 4 rfl ?_);refine lc4_ ?_)|((with_reducible refine gst_ 52 rfl ?_);refine sa52_ ?_)|((with_reducible refine gld_ 52 rfl ?_);refine la52_ ?_))
   have n_:=an_ (qt_ Ma.out)<|D (qr_ HB.out)
   clear Ma HB;obtain ⟨Ma,HB⟩:=n_;refine qaw_ (n:=21) (S:=fun w'=>w'.cell? ⟨Xa,0,none⟩=some (I L b)∧w'.cell? ⟨Xa,1,none⟩=some (Y g a.length c)) (ds:=[]) (bz 21 0) (by kernel_rfl) rfl (by kernel_rfl) (be2_ Ma.out) (fun hHeld=>?_);refine q6_ impl_TableOk.tab1 impl_TableOk.bits1 (fun HT_ HW_=>?_);generalize B.drew=aQ at Ma HB hHeld ⊢;refine pb_ 0 ?_;refine tb_ 1 rfl rfl hHeld Z23 ?_;refine oa_ 2 7 21 7 HT_ (fun K hK=>?_);refine goes_ Try.func25 (by kernel_rfl) rfl #[I L b,I L 0,I L 4294967295] (by rfl) rfl rfl Z12 ?_;with_reducible refine (impl_within.calls b 0 4294967295 false _ E.out).mono ?_
   rintro e w' ⟨rfl,⟨nd,rfl⟩⟩;refine ⟨_,rfl,?_⟩;refine hK.out _ _ (be2_ Ma.out) (fun hHeld=>?_);clear hK K;refine nx_ (N:=some 7) ?_;refine pb_ 3 ?_;refine pb_ 4 ?_;refine ob_ 5 ?_;refine ob_ 6 ?_;refine ob_ 7 ?_;refine ob_ 8 ?_;refine ob_ 9 ?_;refine pb_ 10 ?_;refine pb_ 11 ?_;refine ob_ 12 ?_;refine ob_ 13 ?_;refine ob_ 14 ?_;refine ob_ 15 ?_;refine ob_ 16 ?_;refine ob_ 17 ?_;refine ob_ 18 ?_;refine ob_ 19 ?_;refine pb_ 20 ?_;refine done_ (qaq_ HT_.out (by kernel_rfl)) ?_
   try go_wp2_with (first|((with_reducible refine gld_ 32 rfl ?_);refine qm_ ?_)|((with_reducible refine gld_ 3 rfl ?_);refine lc3_ ?_)|((with_reducible refine gld_ 4 rfl ?_);refine lc4_ ?_)|((with_reducible refine gst_ 52 rfl ?_);refine sa52_ ?_)|((with_reducible refine gld_ 52 rfl ?_);refine la52_ ?_))
   go_meet
   case rel=>exact ⟨_,(true),Z35,H',⟨by first | omega | exact Nat.le_refl _⟩,⟨pk_ Ma.out⟩,⟨pB_ HB.out⟩⟩
 case rest =>
  clear A
  (try clear c2);(try clear p2);(try clear c3);(try clear c5);(try clear p6);(try clear c7)
  obtain ⟨kq,Ub,rfl,HA,o,Ma,HB⟩:=hcut
  cases kq with
  | zero=>exact absurd HA.out (by simp [impl_TableOk.j0])
  | succ kj1 =>
   have H:=HA.out;clear HA;simp only [impl_TableOk.j0] at H
   by_cases m:Ub=true
   ·subst m
    rw [if_pos rfl] at H;obtain rfl:=Option.some.inj H
    go_wp2_with (first|((with_reducible refine gld_ 32 rfl ?_);refine qm_ ?_)|((with_reducible refine gld_ 3 rfl ?_);refine lc3_ ?_)|((with_reducible refine gld_ 4 rfl ?_);refine lc4_ ?_)|((with_reducible refine gst_ 52 rfl ?_);refine sa52_ ?_)|((with_reducible refine gld_ 52 rfl ?_);refine la52_ ?_))
    go_ret;exact ⟨er_,pB_ HB.out⟩
   ·replace m:=Bool.eq_false_iff.mpr m
    subst m;rw [if_neg (show ¬ (false=true) by decide)] at H;have H':=D H;clear H;obtain ⟨Oc,Uc,Xc,Jd⟩:=ql_ Ma.out
    go_wp2_with (first|((with_reducible refine gld_ 32 rfl ?_);refine qm_ ?_)|((with_reducible refine gld_ 3 rfl ?_);refine lc3_ ?_)|((with_reducible refine gld_ 4 rfl ?_);refine lc4_ ?_)|((with_reducible refine gst_ 52 rfl ?_);refine sa52_ ?_)|((with_reducible refine gld_ 52 rfl ?_);refine la52_ ?_))
    go_loopg [29] kj1 (fun kq aH w'=>∃ (Ja:Int),aH=I L Ja∧Aside0 (impl_TableOk.l0 kq a (a.length:Int) Ja b a=some r)∧Aside0 (kq≤kj1)∧Aside0 (w'.heap[Xa]?=some (.cells #[I L b,(Y g a.length c)] 26 (0,0)))∧Aside0 (Below w.heap.size w w'))
    case atStart=>exact ⟨(0),Z35,H',⟨Nat.le_refl _⟩,⟨pk_ Ma.out⟩,⟨pB_ HB.out⟩⟩
    case round =>
     clear H'
     (try clear c1);(try clear c2);(try clear p2);(try clear c3);(try clear c5);(try clear p6);(try clear c7);(try clear m);(try clear Oc Uc Xc Jd);(try clear p2);(try clear p6)
     obtain ⟨Ja,rfl,HA,p,Ma,HB⟩:=hrel
     cases gk with
     | zero=>exact absurd HA.out (by simp [impl_TableOk.l0])
     | succ d =>
      have H:=HA.out;clear HA;simp only [impl_TableOk.l0] at H
      by_cases j:Ja < (a.length:Int)
      ·rw [if_pos j] at H
       have aI:decide (Ja < (a.length:Int))=true:=decide_eq_true j;clear j
       by_cases q:0≤Ja
       ·rw [if_pos q] at H
        have aS:decide (0≤Ja)=true:=decide_eq_true q;clear q
        by_cases s:Ja < (a.length:Int)
        ·rw [if_pos s] at H
         have aT:decide (Ja < (a.length:Int))=true:=decide_eq_true s;clear s;have ag:=D H;clear H;have G:0≤(Ja:Int):=od_ Z22;have J:Ja < (a.length:Int):=od_ Z22;obtain ⟨aJ,aK,ah,ai,aj,ak,al,am,an,ao,ap,aq,ar,au,av,aw,ax,ay⟩:=at_T52 z.out Ja G J;cases aK;replace ah:=rc_ HB.out ah;replace ai:=rc_ HB.out ai;replace aj:=rc_ HB.out aj;replace ak:=rc_ HB.out ak;replace al:=rc_ HB.out al;replace am:=rc_ HB.out am;replace an:=rc_ HB.out an;replace ao:=rc_ HB.out ao;replace ap:=rc_ HB.out ap;replace aq:=rc_ HB.out aq;replace ar:=rc_ HB.out ar;replace au:=rc_ HB.out au;replace av:=rc_ HB.out av;replace aw:=rc_ HB.out aw;replace ax:=rc_ HB.out ax;replace ay:=rc_ HB.out ay;replace G:=eq_true G;replace J:=eq_true J
         go_upto_if 34 with (first|((with_reducible refine gld_ 32 rfl ?_);refine qm_ ?_)|((with_reducible refine gld_ 3 rfl ?_);refine lc3_ ?_)|((with_reducible refine gld_ 4 rfl ?_);refine lc4_ ?_)|((with_reducible refine gst_ 52 rfl ?_);refine sa52_ ?_)|((with_reducible refine gld_ 52 rfl ?_);refine la52_ ?_)|((with_reducible refine qg_ (N:=4) rfl ?_);(try (refine qam_ (by rfl) ?_;dsimp only));refine bx_ (N:=4) (cs:=#[.bool false,I L 0,I L 0,I L 0,I L 0,I L 0,I L 0,I L 0,I L 0,I L 0,I L 0,I L 0,I L 0,I L 0,I L 0,I L 0]) (t:=52) ?_;intro Oa hg aU hbox hb;have n_:=an_ (qb_ (pk_ Ma.out) hb)<|an_ (qc_ (pB_ HB.out) hb)<|an_ (hbox)<|an_ (bg_ hg (pB_ HB.out):w.heap.size≤Oa)<|an_ (bg_ hg (pB_ HB.out):w.heap.size≤Oa)<|an_ (nl_ hg (pk_ Ma.out):Xa≠Oa)<|D (by rw [hg];exact Nat.ne_of_gt (qz_ (pk_ Ma.out)):Oa≠Xa);clear Ma HB;obtain ⟨Ma,HB,Ka,Ud,Xd,Ua,Kb⟩:=n_;clear hb hbox hg;(try have:=Kb.out);(try have:=Ua.out)))
         refine relet_ (F:=fun u=>Aside0 (u.heap[Xa]?=some (.cells #[I L b,Y (some aJ) a.length c] 26 (0,0)))∧Aside0 (u.heap[Oa]?=some (.cells #[.bool ((qa_ a Ja).f0),I L ((qa_ a Ja).f1.f0),I L ((qa_ a Ja).f1.f1.f0.f0),I L ((qa_ a Ja).f1.f1.f0.f1),I L ((qa_ a Ja).f1.f1.f0.f2),I L ((qa_ a Ja).f1.f1.f0.f3),I L ((qa_ a Ja).f1.f1.f0.f4),I L ((qa_ a Ja).f1.f1.f1.f0),I L ((qa_ a Ja).f1.f1.f1.f1),I L ((qa_ a Ja).f1.f1.f1.f2),I L ((qa_ a Ja).f1.f1.f1.f3),I L ((qa_ a Ja).f1.f1.f1.f4),I L ((qa_ a Ja).f1.f1.f2),I L ((qa_ a Ja).f1.f1.f3),I L ((qa_ a Ja).f1.f1.f4),I L ((qa_ a Ja).f2)] 52 (0,0)))∧Aside0 (Below w.heap.size w u)) ⟨⟨pP_ Ma.out⟩,⟨pP_ Ka.out⟩,⟨pB_ HB.out⟩⟩ ?_
         (try clear Ma);(try clear Ka);(try clear HB);rintro u ⟨Ma,Ka,HB⟩;have H:=ag.out;clear ag;obtain ⟨M,O⟩:∃ b_:Bool,b_=((qa_ a Ja).f0):=⟨_,rfl⟩
         replace H:(if (M=true) then ((impl_FlowKeyOk.f d ((qa_ a Ja).f1.f0) ((qa_ a Ja).f1.f1.f0.f0) ((qa_ a Ja).f1.f1.f0.f1) ((qa_ a Ja).f1.f1.f0.f2) ((qa_ a Ja).f1.f1.f0.f3) ((qa_ a Ja).f1.f1.f0.f4) ((qa_ a Ja).f1.f1.f1.f0) ((qa_ a Ja).f1.f1.f1.f1) ((qa_ a Ja).f1.f1.f1.f2) ((qa_ a Ja).f1.f1.f1.f3) ((qa_ a Ja).f1.f1.f1.f4) ((qa_ a Ja).f1.f1.f2) ((qa_ a Ja).f1.f1.f3) ((qa_ a Ja).f1.f1.f4)).bind fun Kc=>(if Kc=true then ((impl_within.f ((qa_ a Ja).f2) 0 1000000000000).bind fun Mc=>(if Mc=true then ((impl_Table_probe.f d b a ((qa_ a Ja).f1.f0) ((qa_ a Ja).f1.f1.f0.f0) ((qa_ a Ja).f1.f1.f0.f1) ((qa_ a Ja).f1.f1.f0.f2) ((qa_ a Ja).f1.f1.f0.f3) ((qa_ a Ja).f1.f1.f0.f4) ((qa_ a Ja).f1.f1.f1.f0) ((qa_ a Ja).f1.f1.f1.f1) ((qa_ a Ja).f1.f1.f1.f2) ((qa_ a Ja).f1.f1.f1.f3) ((qa_ a Ja).f1.f1.f1.f4) ((qa_ a Ja).f1.f1.f2) ((qa_ a Ja).f1.f1.f3) ((qa_ a Ja).f1.f1.f4)).bind fun Jb=>(if Jb=Ja then (impl_TableOk.l0 d a (a.length:Int) (wrap64 (Ja+1)) b a) else (some false))) else (some false))) else (some false))) else (if ((M) || ((!(((qa_ a Ja).f1.f0) == 0) || (((!(((qa_ a Ja).f1.f1.f0.f0) == 0) || (!(((qa_ a Ja).f1.f1.f0.f1) == 0) || (!(((qa_ a Ja).f1.f1.f0.f2) == 0) || (!(((qa_ a Ja).f1.f1.f0.f3) == 0) || (!(((qa_ a Ja).f1.f1.f0.f4) == 0)))))) || ((!(((qa_ a Ja).f1.f1.f1.f0) == 0) || (!(((qa_ a Ja).f1.f1.f1.f1) == 0) || (!(((qa_ a Ja).f1.f1.f1.f2) == 0) || (!(((qa_ a Ja).f1.f1.f1.f3) == 0) || (!(((qa_ a Ja).f1.f1.f1.f4) == 0)))))) || (!(((qa_ a Ja).f1.f1.f2) == 0) || (!(((qa_ a Ja).f1.f1.f3) == 0) || (!(((qa_ a Ja).f1.f1.f4) == 0)))))))) || (!(((qa_ a Ja).f2) == 0))))=true then (some false) else (impl_TableOk.l0 d a (a.length:Int) (wrap64 (Ja+1)) b a)))=some r:=by rw [← O] at H;exact H
         have az:=D O;clear O;(try rw [← az.out]);(try rw [← az.out] at Ka)
         by_cases v:(M=true)
         ·subst v;(try simp only [Bool.not_true,Bool.not_false])
          rw [if_pos rfl] at H;obtain ⟨Kc,aA,H⟩:=bs_.mp H;(try dsimp only at H);have P:=D aA;clear aA
          by_cases x:Kc=true
          ·subst x
           rw [if_pos rfl] at H;obtain ⟨Mc,aB,H⟩:=bs_.mp H;(try dsimp only at H);have aC:=D aB;clear aB
           by_cases y:Mc=true
           ·subst y
            rw [if_pos rfl] at H;obtain ⟨Jb,aD,H⟩:=bs_.mp H;(try dsimp only at H);have aL:=D aD;clear aD;have aE:=D H;clear H;(try have:=Kb.out);(try have:=Ua.out)
            go_upto_if 41 with (first|((with_reducible refine gld_ 32 rfl ?_);refine qm_ ?_)|((with_reducible refine gld_ 3 rfl ?_);refine lc3_ ?_)|((with_reducible refine gld_ 4 rfl ?_);refine lc4_ ?_)|((with_reducible refine gst_ 52 rfl ?_);refine sa52_ ?_)|((with_reducible refine gld_ 52 rfl ?_);refine la52_ ?_)|((with_reducible refine qd_ (f:=24) rfl ?_);refine qk_ (some 44) rfl rfl Try.func24 (by kernel_rfl) rfl #[.agg #[I L ((qa_ a Ja).f1.f0),I L ((qa_ a Ja).f1.f1.f0.f0),I L ((qa_ a Ja).f1.f1.f0.f1),I L ((qa_ a Ja).f1.f1.f0.f2),I L ((qa_ a Ja).f1.f1.f0.f3),I L ((qa_ a Ja).f1.f1.f0.f4),I L ((qa_ a Ja).f1.f1.f1.f0),I L ((qa_ a Ja).f1.f1.f1.f1),I L ((qa_ a Ja).f1.f1.f1.f2),I L ((qa_ a Ja).f1.f1.f1.f3),I L ((qa_ a Ja).f1.f1.f1.f4),I L ((qa_ a Ja).f1.f1.f2),I L ((qa_ a Ja).f1.f1.f3),I L ((qa_ a Ja).f1.f1.f4)]] rfl Z12 ?_;(with_reducible refine (impl_FlowKeyOk.calls d ((qa_ a Ja).f1.f0) ((qa_ a Ja).f1.f1.f0.f0) ((qa_ a Ja).f1.f1.f0.f1) ((qa_ a Ja).f1.f1.f0.f2) ((qa_ a Ja).f1.f1.f0.f3) ((qa_ a Ja).f1.f1.f0.f4) ((qa_ a Ja).f1.f1.f1.f0) ((qa_ a Ja).f1.f1.f1.f1) ((qa_ a Ja).f1.f1.f1.f2) ((qa_ a Ja).f1.f1.f1.f3) ((qa_ a Ja).f1.f1.f1.f4) ((qa_ a Ja).f1.f1.f2) ((qa_ a Ja).f1.f1.f3) ((qa_ a Ja).f1.f1.f4) true _ P.out).mono ?_);rintro e aV ⟨rfl,hb⟩;refine ⟨_,rfl,?_⟩;have n_:=an_ (qb_ (pk_ Ma.out) hb)<|an_ (qb_ (pk_ Ka.out) hb)<|D (qc_ (pB_ HB.out) hb);clear Ma Ka HB;obtain ⟨Ma,Ka,HB⟩:=n_;(try clear hb))|(go_at_call 25;(with_reducible refine (impl_within.calls ((qa_ a Ja).f2) 0 1000000000000 true _ aC.out).mono ?_);rintro e w' ⟨rfl,⟨nd,rfl⟩⟩;have Jx:=ql_ Ma.out)|(go_at_call 29;(with_reducible refine (impl_Table_probe.calls d b _ _ a ((qa_ a Ja).f1.f0) ((qa_ a Ja).f1.f1.f0.f0) ((qa_ a Ja).f1.f1.f0.f1) ((qa_ a Ja).f1.f1.f0.f2) ((qa_ a Ja).f1.f1.f0.f3) ((qa_ a Ja).f1.f1.f0.f4) ((qa_ a Ja).f1.f1.f1.f0) ((qa_ a Ja).f1.f1.f1.f1) ((qa_ a Ja).f1.f1.f1.f2) ((qa_ a Ja).f1.f1.f1.f3) ((qa_ a Ja).f1.f1.f1.f4) ((qa_ a Ja).f1.f1.f2) ((qa_ a Ja).f1.f1.f3) ((qa_ a Ja).f1.f1.f4) Jb _ ?side1 ?side2 aL.out).mono ?_);(case side1=>exact pC_ (Kd.C_below z.out (pB_ HB.out)));(case side2=>exact Z.out);rintro e aW ⟨rfl,hb⟩;have n_:=an_ (qb_ (pk_ Ma.out) hb)<|an_ (qb_ (pk_ Ka.out) hb)<|D (qc_ (pB_ HB.out) hb);clear Ma Ka HB;obtain ⟨Ma,Ka,HB⟩:=n_;(try clear hb)))
            have H:=aE.out;clear aE
            by_cases i:Jb=Ja
            ·rw [if_pos i] at H
             have T:(Jb == Ja)=true:=beq_iff_eq.mpr i;have aM:(Jb != Ja)=false:=bne_eq_false_iff_eq.mpr i;clear i;refine rw_ T ?_;have H':=D H;clear H
             go_wp2_with (first|((with_reducible refine gld_ 32 rfl ?_);refine qm_ ?_)|((with_reducible refine gld_ 3 rfl ?_);refine lc3_ ?_)|((with_reducible refine gld_ 4 rfl ?_);refine lc4_ ?_)|((with_reducible refine gst_ 52 rfl ?_);refine sa52_ ?_)|((with_reducible refine gld_ 52 rfl ?_);refine la52_ ?_))
             go_roundg d
             case measure=>have:=o.out;have:=p.out;omega
             case rel=>exact ⟨(wrap64 (Ja+1)),Z35,H',⟨by have:=o.out;have:=p.out;omega⟩,⟨pk_ Ma.out⟩,⟨pB_ HB.out⟩⟩
            ·rw [if_neg i] at H
             have T:(Jb == Ja)=false:=beq_eq_false_iff_ne.mpr i;have aM:(Jb != Ja)=true:=bne_iff_ne.mpr i;refine rw_ T ?_;obtain rfl:=Option.some.inj H
             go_wp2_with (first|((with_reducible refine gld_ 32 rfl ?_);refine qm_ ?_)|((with_reducible refine gld_ 3 rfl ?_);refine lc3_ ?_)|((with_reducible refine gld_ 4 rfl ?_);refine lc4_ ?_)|((with_reducible refine gst_ 52 rfl ?_);refine sa52_ ?_)|((with_reducible refine gld_ 52 rfl ?_);refine la52_ ?_))
             go_ret;exact ⟨er_,pB_ HB.out⟩
           ·replace y:=Bool.eq_false_iff.mpr y
            subst y;rw [if_neg (show ¬ (false=true) by decide)] at H;obtain rfl:=Option.some.inj H;(try have:=Kb.out);(try have:=Ua.out)
            go_wp2_with (first|((with_reducible refine gld_ 32 rfl ?_);refine qm_ ?_)|((with_reducible refine gld_ 3 rfl ?_);refine lc3_ ?_)|((with_reducible refine gld_ 4 rfl ?_);refine lc4_ ?_)|((with_reducible refine gst_ 52 rfl ?_);refine sa52_ ?_)|((with_reducible refine gld_ 52 rfl ?_);refine la52_ ?_)|((with_reducible refine qd_ (f:=24) rfl ?_);refine qk_ (some 44) rfl rfl Try.func24 (by kernel_rfl) rfl #[.agg #[I L ((qa_ a Ja).f1.f0),I L ((qa_ a Ja).f1.f1.f0.f0),I L ((qa_ a Ja).f1.f1.f0.f1),I L ((qa_ a Ja).f1.f1.f0.f2),I L ((qa_ a Ja).f1.f1.f0.f3),I L ((qa_ a Ja).f1.f1.f0.f4),I L ((qa_ a Ja).f1.f1.f1.f0),I L ((qa_ a Ja).f1.f1.f1.f1),I L ((qa_ a Ja).f1.f1.f1.f2),I L ((qa_ a Ja).f1.f1.f1.f3),I L ((qa_ a Ja).f1.f1.f1.f4),I L ((qa_ a Ja).f1.f1.f2),I L ((qa_ a Ja).f1.f1.f3),I L ((qa_ a Ja).f1.f1.f4)]] rfl Z12 ?_;(with_reducible refine (impl_FlowKeyOk.calls d ((qa_ a Ja).f1.f0) ((qa_ a Ja).f1.f1.f0.f0) ((qa_ a Ja).f1.f1.f0.f1) ((qa_ a Ja).f1.f1.f0.f2) ((qa_ a Ja).f1.f1.f0.f3) ((qa_ a Ja).f1.f1.f0.f4) ((qa_ a Ja).f1.f1.f1.f0) ((qa_ a Ja).f1.f1.f1.f1) ((qa_ a Ja).f1.f1.f1.f2) ((qa_ a Ja).f1.f1.f1.f3) ((qa_ a Ja).f1.f1.f1.f4) ((qa_ a Ja).f1.f1.f2) ((qa_ a Ja).f1.f1.f3) ((qa_ a Ja).f1.f1.f4) true _ P.out).mono ?_);rintro e aX ⟨rfl,hb⟩;refine ⟨_,rfl,?_⟩;have n_:=an_ (qb_ (pk_ Ma.out) hb)<|an_ (qb_ (pk_ Ka.out) hb)<|D (qc_ (pB_ HB.out) hb);clear Ma Ka HB;obtain ⟨Ma,Ka,HB⟩:=n_;(try clear hb))|(go_at_call 25;(with_reducible refine (impl_within.calls ((qa_ a Ja).f2) 0 1000000000000 false _ aC.out).mono ?_);rintro e w' ⟨rfl,⟨nd,rfl⟩⟩))
            go_ret;exact ⟨er_,pB_ HB.out⟩
          ·replace x:=Bool.eq_false_iff.mpr x
           subst x;rw [if_neg (show ¬ (false=true) by decide)] at H;obtain rfl:=Option.some.inj H;(try have:=Kb.out);(try have:=Ua.out)
           go_wp2_with (first|((with_reducible refine gld_ 32 rfl ?_);refine qm_ ?_)|((with_reducible refine gld_ 3 rfl ?_);refine lc3_ ?_)|((with_reducible refine gld_ 4 rfl ?_);refine lc4_ ?_)|((with_reducible refine gst_ 52 rfl ?_);refine sa52_ ?_)|((with_reducible refine gld_ 52 rfl ?_);refine la52_ ?_)|((with_reducible refine qd_ (f:=24) rfl ?_);refine qk_ (some 44) rfl rfl Try.func24 (by kernel_rfl) rfl #[.agg #[I L ((qa_ a Ja).f1.f0),I L ((qa_ a Ja).f1.f1.f0.f0),I L ((qa_ a Ja).f1.f1.f0.f1),I L ((qa_ a Ja).f1.f1.f0.f2),I L ((qa_ a Ja).f1.f1.f0.f3),I L ((qa_ a Ja).f1.f1.f0.f4),I L ((qa_ a Ja).f1.f1.f1.f0),I L ((qa_ a Ja).f1.f1.f1.f1),I L ((qa_ a Ja).f1.f1.f1.f2),I L ((qa_ a Ja).f1.f1.f1.f3),I L ((qa_ a Ja).f1.f1.f1.f4),I L ((qa_ a Ja).f1.f1.f2),I L ((qa_ a Ja).f1.f1.f3),I L ((qa_ a Ja).f1.f1.f4)]] rfl Z12 ?_;(with_reducible refine (impl_FlowKeyOk.calls d ((qa_ a Ja).f1.f0) ((qa_ a Ja).f1.f1.f0.f0) ((qa_ a Ja).f1.f1.f0.f1) ((qa_ a Ja).f1.f1.f0.f2) ((qa_ a Ja).f1.f1.f0.f3) ((qa_ a Ja).f1.f1.f0.f4) ((qa_ a Ja).f1.f1.f1.f0) ((qa_ a Ja).f1.f1.f1.f1) ((qa_ a Ja).f1.f1.f1.f2) ((qa_ a Ja).f1.f1.f1.f3) ((qa_ a Ja).f1.f1.f1.f4) ((qa_ a Ja).f1.f1.f2) ((qa_ a Ja).f1.f1.f3) ((qa_ a Ja).f1.f1.f4) false _ P.out).mono ?_);rintro e aY ⟨rfl,hb⟩;refine ⟨_,rfl,?_⟩;have n_:=an_ (qb_ (pk_ Ma.out) hb)<|an_ (qb_ (pk_ Ka.out) hb)<|D (qc_ (pB_ HB.out) hb);clear Ma Ka HB;obtain ⟨Ma,Ka,HB⟩:=n_;(try clear hb)))
           go_ret;exact ⟨er_,pB_ HB.out⟩
         ·replace v:=Bool.eq_false_iff.mpr v
          subst v;(try simp only [Bool.not_true,Bool.not_false]);rw [if_neg (show ¬ (false=true) by decide)] at H
          by_cases l:((false) || ((!(((qa_ a Ja).f1.f0) == 0) || (((!(((qa_ a Ja).f1.f1.f0.f0) == 0) || (!(((qa_ a Ja).f1.f1.f0.f1) == 0) || (!(((qa_ a Ja).f1.f1.f0.f2) == 0) || (!(((qa_ a Ja).f1.f1.f0.f3) == 0) || (!(((qa_ a Ja).f1.f1.f0.f4) == 0)))))) || ((!(((qa_ a Ja).f1.f1.f1.f0) == 0) || (!(((qa_ a Ja).f1.f1.f1.f1) == 0) || (!(((qa_ a Ja).f1.f1.f1.f2) == 0) || (!(((qa_ a Ja).f1.f1.f1.f3) == 0) || (!(((qa_ a Ja).f1.f1.f1.f4) == 0)))))) || (!(((qa_ a Ja).f1.f1.f2) == 0) || (!(((qa_ a Ja).f1.f1.f3) == 0) || (!(((qa_ a Ja).f1.f1.f4) == 0)))))))) || (!(((qa_ a Ja).f2) == 0))))=true
          ·rw [if_pos l] at H
           have U:((false) || ((!(((qa_ a Ja).f1.f0) == 0) || (((!(((qa_ a Ja).f1.f1.f0.f0) == 0) || (!(((qa_ a Ja).f1.f1.f0.f1) == 0) || (!(((qa_ a Ja).f1.f1.f0.f2) == 0) || (!(((qa_ a Ja).f1.f1.f0.f3) == 0) || (!(((qa_ a Ja).f1.f1.f0.f4) == 0)))))) || ((!(((qa_ a Ja).f1.f1.f1.f0) == 0) || (!(((qa_ a Ja).f1.f1.f1.f1) == 0) || (!(((qa_ a Ja).f1.f1.f1.f2) == 0) || (!(((qa_ a Ja).f1.f1.f1.f3) == 0) || (!(((qa_ a Ja).f1.f1.f1.f4) == 0)))))) || (!(((qa_ a Ja).f1.f1.f2) == 0) || (!(((qa_ a Ja).f1.f1.f3) == 0) || (!(((qa_ a Ja).f1.f1.f4) == 0)))))))) || (!(((qa_ a Ja).f2) == 0))))=true:=l;rw [Bool.false_or] at U;clear l;obtain rfl:=Option.some.inj H;(try have:=Kb.out);(try have:=Ua.out)
           go_wp2_with (first|((with_reducible refine gld_ 32 rfl ?_);refine qm_ ?_)|((with_reducible refine gld_ 3 rfl ?_);refine lc3_ ?_)|((with_reducible refine gld_ 4 rfl ?_);refine lc4_ ?_)|((with_reducible refine gst_ 52 rfl ?_);refine sa52_ ?_)|((with_reducible refine gld_ 52 rfl ?_);refine la52_ ?_))
           go_ret;exact ⟨er_,pB_ HB.out⟩
          ·rw [if_neg l] at H
           have U:((false) || ((!(((qa_ a Ja).f1.f0) == 0) || (((!(((qa_ a Ja).f1.f1.f0.f0) == 0) || (!(((qa_ a Ja).f1.f1.f0.f1) == 0) || (!(((qa_ a Ja).f1.f1.f0.f2) == 0) || (!(((qa_ a Ja).f1.f1.f0.f3) == 0) || (!(((qa_ a Ja).f1.f1.f0.f4) == 0)))))) || ((!(((qa_ a Ja).f1.f1.f1.f0) == 0) || (!(((qa_ a Ja).f1.f1.f1.f1) == 0) || (!(((qa_ a Ja).f1.f1.f1.f2) == 0) || (!(((qa_ a Ja).f1.f1.f1.f3) == 0) || (!(((qa_ a Ja).f1.f1.f1.f4) == 0)))))) || (!(((qa_ a Ja).f1.f1.f2) == 0) || (!(((qa_ a Ja).f1.f1.f3) == 0) || (!(((qa_ a Ja).f1.f1.f4) == 0)))))))) || (!(((qa_ a Ja).f2) == 0))))=false:=(by simpa using l);rw [Bool.false_or] at U
           clear l;have H':=D H;clear H;(try have:=Kb.out);(try have:=Ua.out)
           go_wp2_with (first|((with_reducible refine gld_ 32 rfl ?_);refine qm_ ?_)|((with_reducible refine gld_ 3 rfl ?_);refine lc3_ ?_)|((with_reducible refine gld_ 4 rfl ?_);refine lc4_ ?_)|((with_reducible refine gst_ 52 rfl ?_);refine sa52_ ?_)|((with_reducible refine gld_ 52 rfl ?_);refine la52_ ?_))
           go_roundg d
           case measure=>have:=o.out;have:=p.out;omega
           case rel=>exact ⟨(wrap64 (Ja+1)),Z35,H',⟨by have:=o.out;have:=p.out;omega⟩,⟨pk_ Ma.out⟩,⟨pB_ HB.out⟩⟩
        ·rw [if_neg s] at H
         exact absurd H (by simp)
       ·rw [if_neg q] at H
        exact absurd H (by simp)
      ·rw [if_neg j] at H
       have aI:decide (Ja < (a.length:Int))=false:=decide_eq_false j;clear j;obtain rfl:=Option.some.inj H
       go_wp2_with (first|((with_reducible refine gld_ 32 rfl ?_);refine qm_ ?_)|((with_reducible refine gld_ 3 rfl ?_);refine lc3_ ?_)|((with_reducible refine gld_ 4 rfl ?_);refine lc4_ ?_)|((with_reducible refine gst_ 52 rfl ?_);refine sa52_ ?_)|((with_reducible refine gld_ 52 rfl ?_);refine la52_ ?_))
       go_ret;exact ⟨er_,pB_ HB.out⟩
def impl_Table_find.f (k:Nat) (b:Int) (a:List (S52)) (c d e g h i j l m n o p q r:Int):Option (Int×Bool):=(impl_Table_probe.f k b a c d e g h i j l m n o p q r).bind fun Mb=>(if Mb < 0 then (some (0,false)) else (if 0≤Mb then (if Mb < (a.length:Int) then (if ((qa_ a Mb).f0=true) then (some ((qa_ a Mb).f2,true)) else (some (0,false))) else (none)) else (none)))
theorem impl_Table_find.calls (k:Nat) (d:Int) (B:Option Addr) (E:Nat) (b:List (S52)) (g i j l m n o p q r s u v x G:Int) (J:Bool) (w:World) (ae:Kd.C k52 w B b.length b) (af:b.length≤E) (h:impl_Table_find.f k d b g i j l m n o p q r s u v x=some (G,J)) :
  Calls Try.prog 26 #[.agg #[I L d,Y B b.length E],.agg #[I L g,I L i,I L j,I L l,I L m,I L n,I L o,I L p,I L q,I L r,I L s,I L u,I L v,I L x]] w fun e w'=>e=.returned (.tuple #[I L G,.bool J])∧Below w.heap.size w w':=by
 have hu26:=Try.underlying26
 have hu32:=Try.underlying32
 have K:=D ae
 have ag:=D af
 clear ae af
 have HB:=D (Below.refl w.heap.size w)
 have H:((impl_Table_probe.f k d b g i j l m n o p q r s u v x).bind fun a=>(if a < 0 then (some (0,false)) else (if 0≤a then (if a < (b.length:Int) then (if ((qa_ b a).f0=true) then (some ((qa_ b a).f2,true)) else (some (0,false))) else (none)) else (none))))=some (G,J):=h
 clear h
 obtain ⟨a,ah,H⟩:=bs_.mp H
 (try dsimp only at H)
 have A3:=D ah
 clear ah
 by_cases c4:a < 0
 ·rw [if_pos c4] at H
  have aS:decide (a < 0)=true:=decide_eq_true c4;clear c4;simp only [Option.some.injEq,Prod.mk.injEq] at H;obtain ⟨rfl,rfl⟩:=H;go_enter Try.func26,Try.ntmps26
  go_wp2_with (first|((with_reducible refine gld_ 3 rfl ?_);refine lc3_ ?_)|((with_reducible refine gld_ 4 rfl ?_);refine lc4_ ?_)|((with_reducible refine gst_ 32 rfl ?_);refine sa32_ ?_)|((with_reducible refine gld_ 32 rfl ?_);refine la32_ ?_)|((with_reducible refine qg_ (N:=2) rfl ?_);refine bx_ (N:=2) (cs:=#[I L d,Y B b.length E]) (t:=26) ?_;intro y hg w5 hbox hb;have n_:=an_ (qc_ (pB_ HB.out) hb)<|an_ (hbox)<|an_ (bg_ hg (pB_ HB.out):w.heap.size≤y)<|D (bg_ hg (pB_ HB.out):w.heap.size≤y);clear HB;obtain ⟨HB,c,aT,aU⟩:=n_;clear hb hbox hg)|((with_reducible refine qg_ (N:=3) rfl ?_);refine bx_ (N:=3) (cs:=#[I L g,I L i,I L j,I L l,I L m,I L n,I L o,I L p,I L q,I L r,I L s,I L u,I L v,I L x]) (t:=32) ?_;intro z hg w6 hbox hb;have n_:=an_ (qb_ (pk_ c.out) hb)<|an_ (qc_ (pB_ HB.out) hb)<|an_ (hbox)<|an_ (bg_ hg (pB_ HB.out):w.heap.size≤z)<|an_ (bg_ hg (pB_ HB.out):w.heap.size≤z)<|an_ (nl_ hg (pk_ c.out):y≠z)<|D (by rw [hg];exact Nat.ne_of_gt (qz_ (pk_ c.out)):z≠y);clear c HB;obtain ⟨c,HB,A,aV,aW,M,O⟩:=n_;clear hb hbox hg;(try have:=M.out);(try have:=O.out);have a3:=ql_ c.out;obtain ⟨a4,a5,a6,a7,a8,a9,ba,bb,bc,bd,be,bf,bg,bh,bi,bj,bk,bl,bm,bn,bo,bp,bq,bs,bu,bv,bw,bx⟩:=cells14 A.out)|((with_reducible refine qd_ (f:=29) rfl ?_);refine qk_ (some 9) rfl rfl Try.func29 (by kernel_rfl) rfl #[.agg #[I L d,Y B b.length E],.agg #[I L g,I L i,I L j,I L l,I L m,I L n,I L o,I L p,I L q,I L r,I L s,I L u,I L v,I L x]] rfl Z12 ?_;(with_reducible refine (impl_Table_probe.calls k d _ _ b g i j l m n o p q r s u v x a _ ?side1 ?side2 A3.out).mono ?_);(case side1=>exact pC_ (Kd.C_below K.out HB.out));(case side2=>exact ag.out);rintro e bA ⟨rfl,hb⟩;refine ⟨_,rfl,?_⟩;have n_:=an_ (qb_ (pk_ c.out) hb)<|an_ (qb_ (pk_ A.out) hb)<|D (qc_ (pB_ HB.out) hb);clear c A HB;obtain ⟨c,A,HB⟩:=n_;(try clear hb)))
  go_ret2;exact ⟨er_,pB_ HB.out⟩
 ·rw [if_neg c4] at H
  have aS:decide (a < 0)=false:=decide_eq_false c4;clear c4
  by_cases P:0≤a
  ·rw [if_pos P] at H
   have bB:decide (0≤a)=true:=decide_eq_true P;clear P
   by_cases T:a < (b.length:Int)
   ·rw [if_pos T] at H
    have bC:decide (a < (b.length:Int))=true:=decide_eq_true T;clear T;have aj:=D H;clear H;go_enter Try.func26,Try.ntmps26
    go_upto_if 20 with (first|((with_reducible refine gld_ 3 rfl ?_);refine lc3_ ?_)|((with_reducible refine gld_ 4 rfl ?_);refine lc4_ ?_)|((with_reducible refine gst_ 32 rfl ?_);refine sa32_ ?_)|((with_reducible refine gld_ 32 rfl ?_);refine la32_ ?_)|((with_reducible refine qg_ (N:=2) rfl ?_);refine bx_ (N:=2) (cs:=#[I L d,Y B b.length E]) (t:=26) ?_;intro y hg bD hbox hb;have n_:=an_ (qc_ (pB_ HB.out) hb)<|an_ (hbox)<|an_ (bg_ hg (pB_ HB.out):w.heap.size≤y)<|D (bg_ hg (pB_ HB.out):w.heap.size≤y);clear HB;obtain ⟨HB,c,aT,aU⟩:=n_;clear hb hbox hg)|((with_reducible refine qg_ (N:=3) rfl ?_);refine bx_ (N:=3) (cs:=#[I L g,I L i,I L j,I L l,I L m,I L n,I L o,I L p,I L q,I L r,I L s,I L u,I L v,I L x]) (t:=32) ?_;intro z hg bE hbox hb;have n_:=an_ (qb_ (pk_ c.out) hb)<|an_ (qc_ (pB_ HB.out) hb)<|an_ (hbox)<|an_ (bg_ hg (pB_ HB.out):w.heap.size≤z)<|an_ (bg_ hg (pB_ HB.out):w.heap.size≤z)<|an_ (nl_ hg (pk_ c.out):y≠z)<|D (by rw [hg];exact Nat.ne_of_gt (qz_ (pk_ c.out)):z≠y);clear c HB;obtain ⟨c,HB,A,aV,aW,M,O⟩:=n_;clear hb hbox hg;(try have:=M.out);(try have:=O.out);have bF:=ql_ c.out;obtain ⟨bG,bH,bI,bJ,bK,bL,bM,bN,bO,bP,bQ,bR,bS,bT,bU,bV,bW,bX,bY,bZ,b0,b1,b2,b3,b4,b5,b6,b7⟩:=cells14 A.out)|((with_reducible refine qd_ (f:=29) rfl ?_);refine qk_ (some 9) rfl rfl Try.func29 (by kernel_rfl) rfl #[.agg #[I L d,Y B b.length E],.agg #[I L g,I L i,I L j,I L l,I L m,I L n,I L o,I L p,I L q,I L r,I L s,I L u,I L v,I L x]] rfl Z12 ?_;(with_reducible refine (impl_Table_probe.calls k d _ _ b g i j l m n o p q r s u v x a _ ?side1 ?side2 A3.out).mono ?_);(case side1=>exact pC_ (Kd.C_below K.out HB.out));(case side2=>exact ag.out);rintro e b8 ⟨rfl,hb⟩;refine ⟨_,rfl,?_⟩;have n_:=an_ (qb_ (pk_ c.out) hb)<|an_ (qb_ (pk_ A.out) hb)<|D (qc_ (pB_ HB.out) hb);clear c A HB;obtain ⟨c,A,HB⟩:=n_;(try clear hb);have b9:=ql_ c.out;have W:0≤(a:Int):=od_ Z22;have X:a < (b.length:Int):=od_ Z22;obtain ⟨aX,aY,ak,al,am,an,ao,ap,aq,ar,au,av,aw,ax,ay,az,aA,aB⟩:=at_T52 K.out a W X;cases aY;replace ak:=rc_ HB.out ak;replace al:=rc_ HB.out al;replace am:=rc_ HB.out am;replace an:=rc_ HB.out an;replace ao:=rc_ HB.out ao;replace ap:=rc_ HB.out ap;replace aq:=rc_ HB.out aq;replace ar:=rc_ HB.out ar;replace au:=rc_ HB.out au;replace av:=rc_ HB.out av;replace aw:=rc_ HB.out aw;replace ax:=rc_ HB.out ax;replace ay:=rc_ HB.out ay;replace az:=rc_ HB.out az;replace aA:=rc_ HB.out aA;replace aB:=rc_ HB.out aB;replace W:=eq_true W;replace X:=eq_true X))
    have H:=aj.out;clear aj;obtain ⟨aC,Z⟩:∃ b_:Bool,b_=((qa_ b a).f0):=⟨_,rfl⟩
    replace H:(if (aC=true) then (some ((qa_ b a).f2,true)) else (some (0,false)))=some (G,J):=by rw [← Z] at H;exact H
    have aa:=D Z;clear Z;(try rw [← aa.out])
    by_cases U:(aC=true)
    ·subst U;(try simp only [Bool.not_true,Bool.not_false])
     rw [if_pos rfl] at H;simp only [Option.some.injEq,Prod.mk.injEq] at H;obtain ⟨rfl,rfl⟩:=H;(try have:=M.out);(try have:=O.out);have ca:=ql_ c.out;have ab:0≤(a:Int):=od_ Z22;have ac:a < (b.length:Int):=od_ Z22;obtain ⟨aZ,a0,ad,aD,aE,aF,aG,aH,aI,aJ,aK,aL,aM,aN,aO,aP,aQ,aR⟩:=at_T52 K.out a ab ac;(try rw [← aa.out] at ad);(try rw [← aa.out] at cb);obtain rfl:aX=aZ:=(by injection a0);replace ad:=rc_ HB.out ad;replace aD:=rc_ HB.out aD;replace aE:=rc_ HB.out aE;replace aF:=rc_ HB.out aF;replace aG:=rc_ HB.out aG;replace aH:=rc_ HB.out aH;replace aI:=rc_ HB.out aI;replace aJ:=rc_ HB.out aJ;replace aK:=rc_ HB.out aK;replace aL:=rc_ HB.out aL;replace aM:=rc_ HB.out aM;replace aN:=rc_ HB.out aN;replace aO:=rc_ HB.out aO;replace aP:=rc_ HB.out aP;replace aQ:=rc_ HB.out aQ;replace aR:=rc_ HB.out aR;replace ab:=eq_true ab;replace ac:=eq_true ac
     go_wp2_with (first|((with_reducible refine gld_ 3 rfl ?_);refine lc3_ ?_)|((with_reducible refine gld_ 4 rfl ?_);refine lc4_ ?_)|((with_reducible refine gst_ 32 rfl ?_);refine sa32_ ?_)|((with_reducible refine gld_ 32 rfl ?_);refine la32_ ?_))
     go_ret2;exact ⟨er_,pB_ HB.out⟩
    ·replace U:=Bool.eq_false_iff.mpr U
     subst U;(try simp only [Bool.not_true,Bool.not_false]);rw [if_neg (show ¬ (false=true) by decide)] at H;simp only [Option.some.injEq,Prod.mk.injEq] at H;obtain ⟨rfl,rfl⟩:=H
     go_wp2_with (first|((with_reducible refine gld_ 3 rfl ?_);refine lc3_ ?_)|((with_reducible refine gld_ 4 rfl ?_);refine lc4_ ?_)|((with_reducible refine gst_ 32 rfl ?_);refine sa32_ ?_)|((with_reducible refine gld_ 32 rfl ?_);refine la32_ ?_))
     go_ret2;exact ⟨er_,pB_ HB.out⟩
   ·rw [if_neg T] at H
    exact absurd H (by simp)
  ·rw [if_neg P] at H
   exact absurd H (by simp)
def impl_Table_isFull.f (k:Nat) (b:Int) (a:List (S52)):Option (Bool):=(impl_Table_used.f k b a).bind fun c=>(some ((wrap64 (4 * c)) == (wrap64 (3 * (a.length:Int)))))
def impl_Table_isFull.T1:Bool×List (List Nat×List Nat):=(true,[([],[]),([0],[0]),([1],[1]),([],[]),([3],[3]),([4],[4]),([5],[5]),([2,6],[2,6]),([7,1,0,1,2,3,4,5,6,7],[7])])
def impl_Table_isFull.B1:List Nat:=[0,1,3,0,8,24,56,127,255]
theorem impl_Table_isFull.tab1:rtab .any (opsOf Try.f27 1)=impl_Table_isFull.T1:=by kernel_rfl
theorem impl_Table_isFull.bits1:q8_ impl_Table_isFull.T1.2 impl_Table_isFull.B1=true:=by kernel_rfl
theorem impl_Table_isFull.calls (k:Nat) (c:Int) (d:Option Addr) (g:Nat) (a:List (S52)) (r:Bool) (w:World) (l:Kd.C k52 w d a.length a) (m:a.length≤g) (h:impl_Table_isFull.f k c a=some r) :
  Calls Try.prog 27 #[.agg #[I L c,Y d a.length g]] w fun e w'=>e=.returned (.bool r)∧Below w.heap.size w w':=by
 have hu26:=Try.underlying26
 have p:=D l
 have q:=D m
 clear l m
 have HB:=D (Below.refl w.heap.size w)
 have H:((impl_Table_used.f k c a).bind fun j=>(some ((wrap64 (4 * j)) == (wrap64 (3 * (a.length:Int))))))=some r:=h
 clear h
 obtain ⟨j,o,H⟩:=bs_.mp H
 (try dsimp only at H)
 have s:=D o
 clear o
 obtain rfl:=Option.some.inj H
 go_enter Try.func27,Try.ntmps27
 try go_wp2_with (first|((with_reducible refine qg_ (N:=1) rfl ?_);refine bx_ (N:=1) (cs:=#[I L c,Y d a.length g]) (t:=26) ?_;intro i hg u hbox hb;have n_:=an_ (qc_ (pB_ HB.out) hb)<|an_ (hbox)<|an_ (bg_ hg (pB_ HB.out):w.heap.size≤i)<|D (bg_ hg (pB_ HB.out):w.heap.size≤i);clear HB;obtain ⟨HB,b,v,x⟩:=n_;clear hb hbox hg))
 have n_:=an_ (qt_ b.out)<|D (qr_ HB.out)
 clear b HB
 obtain ⟨b,HB⟩:=n_
 refine qaw_ (n:=9) (S:=fun w'=>w'.cell? ⟨i,0,none⟩=some (I L c)∧w'.cell? ⟨i,1,none⟩=some (Y d a.length g)) (ds:=[]) (bz 9 0) (by kernel_rfl) rfl (by kernel_rfl) (be2_ b.out) (fun hHeld=>?_);refine q6_ impl_Table_isFull.tab1 impl_Table_isFull.bits1 (fun HT_ HW_=>?_)
 generalize u.drew=y at b HB hHeld ⊢
 refine pb_ 3 ?_
 refine tb_ 0 rfl rfl hHeld Z23 ?_
 refine tb_ 4 rfl rfl hHeld Z23 ?_
 refine pb_ 5 ?_
 refine pb_ 6 ?_
 refine oa_ 1 4 9 123 HT_ (fun K hK=>?_)
 refine goes_ Try.func36 (by kernel_rfl) rfl #[.agg #[I L c,Y d a.length g]] (by rfl) rfl rfl Z12 ?_
 with_reducible refine (impl_Table_used.calls k c _ _ a j _ ?side1 ?side2 s.out).mono ?_
 (case side1=>exact pC_ (Kd.C_below p.out HB.out))
 (case side2=>exact q.out)
 rintro e z ⟨rfl,hb⟩
 refine ⟨_,rfl,?_⟩
 have n_:=an_ (qb_ (pk_ b.out) hb)<|D (qc_ (pB_ HB.out) hb)
 clear b HB
 obtain ⟨b,HB⟩:=n_
 (try clear hb)
 (try clear A)
 (try clear hk)
 (try clear hi)
 refine hK.out _ _ ⟨bc_ b.out 0,(bc_ b.out 1)⟩ (fun hHeld=>?_)
 clear hK K
 refine nx_ (N:=some 4) ?_
 refine pb_ 2 ?_
 refine pb_ 7 ?_
 refine pb_ 8 ?_
 refine done_ (qaq_ HT_.out (by kernel_rfl)) ?_
 try go_wp2
 go_ret
 exact ⟨er_,pB_ HB.out⟩
def slices_Clone_impl_Cell_impl_Cell.f (l0:List (S52)):Option ((List (S52))):=(some (([]:List (S52)):List (S52))).bind fun a=>(if a.length+l0.length < 1099511627776 then (some (a ++ l0)) else (none))
theorem slices_Clone_impl_Cell_impl_Cell.calls (j:Option Addr) (k:Nat) (l0 r:List (S52)) (w:World) (l:Kd.C k52 w j l0.length l0) (o:l0.length≤k) (h:slices_Clone_impl_Cell_impl_Cell.f l0=some r) :
  Calls Try.prog 38 #[Y j l0.length k] w fun e w'=>∃ p:Value,e=.returned (p)∧Kd.R k52 52 w' w.heap.size (fun _=>True) p r∧Below w.heap.size w w':=by
 have s:=D l
 have M:=D o
 clear l o
 have HB:=D (Below.refl w.heap.size w)
 have H:((some (([]:List (S52)):List (S52))).bind fun a=>(if a.length+l0.length < 1099511627776 then (some (a ++ l0)) else (none)))=some r:=h
 clear h
 by_cases hA_:j=none
 ·subst hA_
  have hl_:=List.length_eq_zero_iff.1 (nil_len s.out);subst hl_
  have H:some ([]:List (S52))=some r:=by simpa using H
  obtain rfl:=Option.some.inj H;go_enter Try.func38,Try.ntmps38
  go_wp2_with (first|((with_reducible refine qg_ (N:=4) rfl ?_);refine isnil_event ?hg (N:=4) ?hd (t:=24) (u:=24) (e:=52) (x:=.tmp 3) (y:=.const (Y none 0 0)) ?ho (A:=none) (n:=0) (c:=k) (m:=0) (q:=0) ?hx ?hy Try.underlying24 (b:=true) rfl ?_;(case hd=>rfl);(case hg=>rfl);(case ho=>rfl);(case hx=>rfl);(case hy=>rfl)))
  go_ret;exact ⟨_,er_,by first|exact Kd.R_nil _ _ _ _ _|exact Kd.N_nil _ _ _ _ _|exact Kd.V_nil _ _ _ _ _|exact Kd.Q_nil _ _ _ _ _|exact Kd.S_nil _ _ _ _ _,pB_ HB.out⟩
 ·have hA1_:=none_no hA_
  obtain ⟨a,d⟩:∃ y_:List (S52),y_=(([]:List (S52))):=⟨_,rfl⟩
  replace H:(if a.length+l0.length < 1099511627776 then (some (a ++ l0)) else (none))=some r:=by first|(rw [d];with_reducible exact H)|(have H2_:=(Option.bind_some _ _).symm.trans H;rw [d];with_reducible exact H2_)|(have H2_:=(Option.bind_some _ _).symm.trans H;with_reducible exact H2_)|with_reducible exact H|(rw [d];exact H)|exact H
  have v:=D d;clear d
  by_cases c2:a.length+l0.length < 1099511627776
  ·rw [if_pos c2] at H
   have B:=D c2;clear c2;obtain ⟨E,g⟩:∃ y_:List (S52),y_=(a ++ l0):=⟨_,rfl⟩
   replace H:(some E)=some r:=by first|(rw [g];with_reducible exact H)|(have H2_:=(Option.bind_some _ _).symm.trans H;rw [g];with_reducible exact H2_)|(have H2_:=(Option.bind_some _ _).symm.trans H;with_reducible exact H2_)|with_reducible exact H|(rw [g];exact H)|exact H
   have G:=D g;clear g;obtain rfl:=Option.some.inj H;go_enter Try.func38,Try.ntmps38
   go_wp2_with (first|((with_reducible refine qg_ (N:=4) rfl ?_);refine isnil_event ?hg (N:=4) ?hd (t:=24) (u:=24) (e:=52) (x:=.tmp 3) (y:=.const (Y none 0 0)) ?ho (A:=j) (n:=l0.length) (c:=k) (m:=0) (q:=0) ?hx ?hy Try.underlying24 (b:=false) hA1_ ?_;(case hd=>rfl);(case hg=>rfl);(case ho=>rfl);(case hx=>rfl);(case hy=>rfl))|((with_reducible refine qg_ (N:=5) rfl ?_);refine Kd.R_lit k52 _ 52 ?hg (N:=5) ?hd (xs:=([]:List (S52))) (inner:=[]) (ok:=fun _=>True) (okp:=fun _=>True) ?hr ?hp (fun _ hk=>hk) trivial (Below.refl _ _) (Nat.le_refl _) (by simp) ?_;(case hd=>rfl);(case hg=>rfl);(case hr=>first|(go_simp;done)|(go_simp;rfl));(case hp=>exact (Reps.none _ _));intro J O i hb hg_ hnew_;clear hg_ hnew_;(first|rw [← v.out] at i|(simp only [Int.reduceToNat] at i;rw [← v.out] at i));have n_:=an_ (Kd.R_lower i (qh_ (pB_ HB.out)))<|D (qc_ (pB_ HB.out) hb);clear HB;obtain ⟨z,HB⟩:=n_;clear hb i)|((with_reducible refine gate_builtin (b:=.append) (xs:=#[.tmp 5,.tmp 6]) rfl ?_);at_builtin;refine Kd.R_append_rows k52 (w0:=w) w.heap.size rfl (.tmp 5) (.tmp 6) 24 52 (.agg #[(.bool false),(I L 0),(I L 0),(I L 0),(I L 0),(I L 0),(I L 0),(I L 0),(I L 0),(I L 0),(I L 0),(I L 0),(I L 0),(I L 0),(I L 0),(I L 0)]) 128 rfl Try.underlying24 info52 rfl (by decide) (by omega) J a l0 _ _ _ (fun _=>True) (fun _=>False) rfl rfl ?aO ?aR (fun _ _ h=>h) (fun _ h=>h.elim) ?aF ?aB ?aS ?aL ?_;(case aR=>exact pC_ (Kd.C_below s.out HB.out));(case aB=>exact (pB_ HB.out));(case aF=>exact (fun _ _=>trivial));(case aO=>exact (pR_ z.out));(case aS=>exact (qh_ (pB_ HB.out)));(case aL=>have:=B.out;omega);intro P T ho hb hg hat;rw [← G.out] at ho;have n_:=an_ (hb)<|D (ho);clear HB z;obtain ⟨HB,K⟩:=n_;clear ho hb hg hat))
   go_ret;exact ⟨_,er_,by (with_reducible repeat (first|apply Kd.R_alloc|apply Kd.R_drewN|apply Kd.R_drew));exact K.out,pB_ HB.out⟩
  ·rw [if_neg c2] at H
   exact absurd H (by simp)
end Go.Proofs.Yteahaehbciccmaa.PFnPutDrop
