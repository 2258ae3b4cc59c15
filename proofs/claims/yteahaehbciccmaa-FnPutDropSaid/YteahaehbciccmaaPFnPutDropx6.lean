-- by a program of this session's, over the kit's words
import Derived.Test.YteahaehbciccmaaPZFnPutDrop
import Derived.Test.YteahaehbciccmaaPFnPutDropx0
import Derived.Test.YteahaehbciccmaaPFnPutDropx2
import Derived.Test.YteahaehbciccmaaPFnPutDropx3
import Derived.Test.YteahaehbciccmaaPFnPutDropx4
import Derived.Test.YteahaehbciccmaaPFnPutDropx5
namespace Go.Proofs.Yteahaehbciccmaa.PFnPutDrop
open Go.RowKit Go.Proofs.YteahaehbciccmaaW.PrintWords Go.Proofs.YteahaehbciccmaaW.PrintLast Go.Proofs.YteahaehbciccmaaW.PrintMore Go.Proofs.YteahaehbciccmaaV Go.Proofs.Yteahaehbciccmaa.ZFnPutDrop
open Go.Value renaming int → I, slice → Y
open Go.IntKind renaming i64 → L
open Aside0 renaming mk → D
open Option renaming bind_eq_some_iff → bs_
attribute [local go_sem] qad_ qab_ qak_ qaj_ q4_ q3_ qac_ qaa_
set_option linter.unusedVariables false
set_option linter.unusedSimpArgs false
set_option maxHeartbeats 8000000
set_option maxRecDepth 100000
attribute [local go_sem high] eqA52
mutual
def spec_TableOk.j0:Nat→Int→Bool→Int→List (S52)→Option (Bool)
 | 0,_,_,_,_=>none
 | k+1,x3,c,b,a=>if c=true then (some false) else ((spec_l11Count.f k b a).bind fun d=>(if (wrap64 (4 * d)) > (wrap64 (3 * x3)) then (some false) else (spec_TableOk.l0 k x3 0 b a)))
def spec_TableOk.l0:Nat→Int→Int→Int→List (S52)→Option (Bool)
 | 0,_,_,_,_=>none
 | k+1,x3,x4,b,a=>if x4 < x3 then (if 0≤x4 then (if x4 < (a.length:Int) then (if ((qa_ a x4).f0=true) then ((spec_FlowKeyOk.f ((qa_ a x4).f1.f0) ((qa_ a x4).f1.f1.f0.f0) ((qa_ a x4).f1.f1.f0.f1) ((qa_ a x4).f1.f1.f0.f2) ((qa_ a x4).f1.f1.f0.f3) ((qa_ a x4).f1.f1.f0.f4) ((qa_ a x4).f1.f1.f1.f0) ((qa_ a x4).f1.f1.f1.f1) ((qa_ a x4).f1.f1.f1.f2) ((qa_ a x4).f1.f1.f1.f3) ((qa_ a x4).f1.f1.f1.f4) ((qa_ a x4).f1.f1.f2) ((qa_ a x4).f1.f1.f3) ((qa_ a x4).f1.f1.f4)).bind fun e=>(if e=true then (if ((qa_ a x4).f2) < 0 then (spec_TableOk.j2 k x3 x4 true b a ((qa_ a x4).f0) ((qa_ a x4).f1.f0) ((qa_ a x4).f1.f1.f0.f0) ((qa_ a x4).f1.f1.f0.f1) ((qa_ a x4).f1.f1.f0.f2) ((qa_ a x4).f1.f1.f0.f3) ((qa_ a x4).f1.f1.f0.f4) ((qa_ a x4).f1.f1.f1.f0) ((qa_ a x4).f1.f1.f1.f1) ((qa_ a x4).f1.f1.f1.f2) ((qa_ a x4).f1.f1.f1.f3) ((qa_ a x4).f1.f1.f1.f4) ((qa_ a x4).f1.f1.f2) ((qa_ a x4).f1.f1.f3) ((qa_ a x4).f1.f1.f4) ((qa_ a x4).f2)) else (if ((qa_ a x4).f2) > 1000000000000 then (spec_TableOk.j2 k x3 x4 true b a ((qa_ a x4).f0) ((qa_ a x4).f1.f0) ((qa_ a x4).f1.f1.f0.f0) ((qa_ a x4).f1.f1.f0.f1) ((qa_ a x4).f1.f1.f0.f2) ((qa_ a x4).f1.f1.f0.f3) ((qa_ a x4).f1.f1.f0.f4) ((qa_ a x4).f1.f1.f1.f0) ((qa_ a x4).f1.f1.f1.f1) ((qa_ a x4).f1.f1.f1.f2) ((qa_ a x4).f1.f1.f1.f3) ((qa_ a x4).f1.f1.f1.f4) ((qa_ a x4).f1.f1.f2) ((qa_ a x4).f1.f1.f3) ((qa_ a x4).f1.f1.f4) ((qa_ a x4).f2)) else ((spec_l11Place.f k b a ((qa_ a x4).f1.f0) ((qa_ a x4).f1.f1.f0.f0) ((qa_ a x4).f1.f1.f0.f1) ((qa_ a x4).f1.f1.f0.f2) ((qa_ a x4).f1.f1.f0.f3) ((qa_ a x4).f1.f1.f0.f4) ((qa_ a x4).f1.f1.f1.f0) ((qa_ a x4).f1.f1.f1.f1) ((qa_ a x4).f1.f1.f1.f2) ((qa_ a x4).f1.f1.f1.f3) ((qa_ a x4).f1.f1.f1.f4) ((qa_ a x4).f1.f1.f2) ((qa_ a x4).f1.f1.f3) ((qa_ a x4).f1.f1.f4)).bind fun g=>(spec_TableOk.j2 k x3 x4 (g != x4) b a ((qa_ a x4).f0) ((qa_ a x4).f1.f0) ((qa_ a x4).f1.f1.f0.f0) ((qa_ a x4).f1.f1.f0.f1) ((qa_ a x4).f1.f1.f0.f2) ((qa_ a x4).f1.f1.f0.f3) ((qa_ a x4).f1.f1.f0.f4) ((qa_ a x4).f1.f1.f1.f0) ((qa_ a x4).f1.f1.f1.f1) ((qa_ a x4).f1.f1.f1.f2) ((qa_ a x4).f1.f1.f1.f3) ((qa_ a x4).f1.f1.f1.f4) ((qa_ a x4).f1.f1.f2) ((qa_ a x4).f1.f1.f3) ((qa_ a x4).f1.f1.f4) ((qa_ a x4).f2))))) else (spec_TableOk.j2 k x3 x4 true b a ((qa_ a x4).f0) ((qa_ a x4).f1.f0) ((qa_ a x4).f1.f1.f0.f0) ((qa_ a x4).f1.f1.f0.f1) ((qa_ a x4).f1.f1.f0.f2) ((qa_ a x4).f1.f1.f0.f3) ((qa_ a x4).f1.f1.f0.f4) ((qa_ a x4).f1.f1.f1.f0) ((qa_ a x4).f1.f1.f1.f1) ((qa_ a x4).f1.f1.f1.f2) ((qa_ a x4).f1.f1.f1.f3) ((qa_ a x4).f1.f1.f1.f4) ((qa_ a x4).f1.f1.f2) ((qa_ a x4).f1.f1.f3) ((qa_ a x4).f1.f1.f4) ((qa_ a x4).f2)))) else (if (((qa_ a x4).f0) || ((!(((qa_ a x4).f1.f0) == 0) || (((!(((qa_ a x4).f1.f1.f0.f0) == 0) || (!(((qa_ a x4).f1.f1.f0.f1) == 0) || (!(((qa_ a x4).f1.f1.f0.f2) == 0) || (!(((qa_ a x4).f1.f1.f0.f3) == 0) || (!(((qa_ a x4).f1.f1.f0.f4) == 0)))))) || ((!(((qa_ a x4).f1.f1.f1.f0) == 0) || (!(((qa_ a x4).f1.f1.f1.f1) == 0) || (!(((qa_ a x4).f1.f1.f1.f2) == 0) || (!(((qa_ a x4).f1.f1.f1.f3) == 0) || (!(((qa_ a x4).f1.f1.f1.f4) == 0)))))) || (!(((qa_ a x4).f1.f1.f2) == 0) || (!(((qa_ a x4).f1.f1.f3) == 0) || (!(((qa_ a x4).f1.f1.f4) == 0)))))))) || (!(((qa_ a x4).f2) == 0))))=true then (some false) else (spec_TableOk.l0 k x3 (wrap64 (x4+1)) b a))) else (none)) else (none)) else (some true)
def spec_TableOk.j2:Nat→Int→Int→Bool→Int→List (S52)→Bool→Int→Int→Int→Int→Int→Int→Int→Int→Int→Int→Int→Int→Int→Int→Int→Option (Bool)
 | 0,_,_,_,_,_,_,_,_,_,_,_,_,_,_,_,_,_,_,_,_,_=>none
 | k+1,x3,x4,h,b,a,y,i,j,l,m,n,o,p,q,r,s,t,u,v,w,z=>if h=true then (some false) else ((spec_l11Home.f k b a i j l m n o p q r s t u v w).bind fun x=>(spec_TableOk.l1 k x3 x4 x b a))
def spec_TableOk.l1:Nat→Int→Int→Int→Int→List (S52)→Option (Bool)
 | 0,_,_,_,_,_=>none
 | k+1,x3,x4,x6,b,a=>if x6=x4 then (spec_TableOk.l0 k x3 (wrap64 (x4+1)) b a) else (if 0≤x6 then (if x6 < (a.length:Int) then (if ((qa_ a x6).f0=true) then (if x3=0 then (none) else (spec_TableOk.l1 k x3 x4 (Int.tmod (wrap64 (x6+1)) x3) b a)) else (some false)) else (none)) else (none))
end
def spec_TableOk.f (k:Nat) (b:Int) (a:List (S52)):Option (Bool):=if b < 0 then (spec_TableOk.j0 k (a.length:Int) true b a) else (if b > 4294967295 then (spec_TableOk.j0 k (a.length:Int) true b a) else (if (a.length:Int)=4 then (spec_TableOk.j0 k (a.length:Int) false b a) else (if (a.length:Int)=8 then (spec_TableOk.j0 k (a.length:Int) false b a) else (if (a.length:Int)=16 then (spec_TableOk.j0 k (a.length:Int) false b a) else (if (a.length:Int)=32 then (spec_TableOk.j0 k (a.length:Int) false b a) else (spec_TableOk.j0 k (a.length:Int) ((a.length:Int) != 64) b a))))))
theorem spec_TableOk.calls (k:Nat) (c:Int) (A:Option Addr) (l:Nat) (a:List (S52)) (r:Bool) (w:World) (aZ:Kd.C k52 w A a.length a) (a0:a.length≤l) (h:spec_TableOk.f k c a=some r) :
  Calls Try.prog 17 #[.agg #[I L c,Y A a.length l]] w fun e w'=>e=.returned (.bool r)∧Below w.heap.size w w':=by
 have hu26:=Try.underlying26
 have hu52:=Try.underlying52
 have hu32:=Try.underlying32
 have P:=D aZ
 have aL:=D a0
 clear aZ a0
 have HB:=D (Below.refl w.heap.size w)
 have H:(if c < 0 then (spec_TableOk.j0 k (a.length:Int) true c a) else (if c > 4294967295 then (spec_TableOk.j0 k (a.length:Int) true c a) else (if (a.length:Int)=4 then (spec_TableOk.j0 k (a.length:Int) false c a) else (if (a.length:Int)=8 then (spec_TableOk.j0 k (a.length:Int) false c a) else (if (a.length:Int)=16 then (spec_TableOk.j0 k (a.length:Int) false c a) else (if (a.length:Int)=32 then (spec_TableOk.j0 k (a.length:Int) false c a) else (spec_TableOk.j0 k (a.length:Int) ((a.length:Int) != 64) c a)))))))=some r:=h
 clear h
 have aM:=D H
 clear H
 go_enter Try.func17,Try.ntmps17
 go_upto_region 2 with (first|((with_reducible refine gld_ 32 rfl ?_);refine qm_ ?_)|((with_reducible refine gld_ 3 rfl ?_);refine lc3_ ?_)|((with_reducible refine gld_ 4 rfl ?_);refine lc4_ ?_)|((with_reducible refine gst_ 52 rfl ?_);refine sa52_ ?_)|((with_reducible refine gld_ 52 rfl ?_);refine la52_ ?_)|((with_reducible refine qg_ (N:=1) rfl ?_);refine bx_ (N:=1) (cs:=#[I L c,Y A a.length l]) (t:=26) ?_;intro Ua hg w3 hbox hb;have n_:=an_ (qc_ (pB_ HB.out) hb)<|an_ (hbox)<|an_ (bg_ hg (pB_ HB.out):w.heap.size≤Ua)<|D (bg_ hg (pB_ HB.out):w.heap.size≤Ua);clear HB;obtain ⟨HB,Ma,Kn2,Mn2⟩:=n_;clear hb hbox hg;have Jb:=ql_ Ma.out))
 (try simp only [Act.put,List.setIfInBounds_toArray,List.set_cons_zero,List.set_cons_succ])
 go_cut [37] (fun bA wc=>∃ (kq:Nat) (Ub:Bool),bA=.bool Ub∧Aside0 (spec_TableOk.j0 kq (a.length:Int) Ub c a=some r)∧Aside0 (kq≤k)∧Aside0 (wc.heap[Ua]?=some (.cells #[I L c,(Y A a.length l)] 26 (0,0)))∧Aside0 (Below w.heap.size w wc))
 case first =>
  have H:=aM.out;clear aM
  by_cases c5:c < 0
  ·rw [if_pos c5] at H
   have v:decide (c < 0)=true:=decide_eq_true c5;clear c5;refine rw_ v ?_;have H':=D H;clear H;have Xb:=ql_ Ma.out
   go_wp2_with (first|((with_reducible refine gld_ 32 rfl ?_);refine qm_ ?_)|((with_reducible refine gld_ 3 rfl ?_);refine lc3_ ?_)|((with_reducible refine gld_ 4 rfl ?_);refine lc4_ ?_)|((with_reducible refine gst_ 52 rfl ?_);refine sa52_ ?_)|((with_reducible refine gld_ 52 rfl ?_);refine la52_ ?_))
   go_meet
   case rel=>exact ⟨_,(true),Z35,H',⟨by first | omega | exact Nat.le_refl _⟩,⟨pk_ Ma.out⟩,⟨pB_ HB.out⟩⟩
  ·rw [if_neg c5] at H
   have v:decide (c < 0)=false:=decide_eq_false c5;clear c5;refine rw_ v ?_
   by_cases c7:c > 4294967295
   ·rw [if_pos c7] at H
    have T:decide (4294967295 < c)=true:=decide_eq_true c7;clear c7;have H':=D H;clear H;obtain ⟨Oc,Uc,Xc,Jd⟩:=ql_ Ma.out
    go_wp2_with (first|((with_reducible refine gld_ 32 rfl ?_);refine qm_ ?_)|((with_reducible refine gld_ 3 rfl ?_);refine lc3_ ?_)|((with_reducible refine gld_ 4 rfl ?_);refine lc4_ ?_)|((with_reducible refine gst_ 52 rfl ?_);refine sa52_ ?_)|((with_reducible refine gld_ 52 rfl ?_);refine la52_ ?_))
    go_meet
    case rel=>exact ⟨_,(true),Z35,H',⟨by first | omega | exact Nat.le_refl _⟩,⟨pk_ Ma.out⟩,⟨pB_ HB.out⟩⟩
   ·rw [if_neg c7] at H
    have T:decide (4294967295 < c)=false:=decide_eq_false c7;clear c7
    by_cases c9:(a.length:Int)=4
    ·rw [if_pos c9] at H
     have U:((a.length:Int) == 4)=true:=beq_iff_eq.mpr c9;have W:((a.length:Int) != 4)=false:=bne_eq_false_iff_eq.mpr c9;clear c9;have H':=D H;clear H;have Md:=ql_ Ma.out
     go_wp2_with (first|((with_reducible refine gld_ 32 rfl ?_);refine qm_ ?_)|((with_reducible refine gld_ 3 rfl ?_);refine lc3_ ?_)|((with_reducible refine gld_ 4 rfl ?_);refine lc4_ ?_)|((with_reducible refine gst_ 52 rfl ?_);refine sa52_ ?_)|((with_reducible refine gld_ 52 rfl ?_);refine la52_ ?_))
     go_meet
     case rel=>exact ⟨_,(false),Z35,H',⟨by first | omega | exact Nat.le_refl _⟩,⟨pk_ Ma.out⟩,⟨pB_ HB.out⟩⟩
    ·rw [if_neg c9] at H
     have U:((a.length:Int) == 4)=false:=beq_eq_false_iff_ne.mpr c9;have W:((a.length:Int) != 4)=true:=bne_iff_ne.mpr c9
     by_cases g:(a.length:Int)=8
     ·rw [if_pos g] at H
      have X:((a.length:Int) == 8)=true:=beq_iff_eq.mpr g;have Z:((a.length:Int) != 8)=false:=bne_eq_false_iff_eq.mpr g;clear g;have H':=D H;clear H;have Je:=ql_ Ma.out
      go_wp2_with (first|((with_reducible refine gld_ 32 rfl ?_);refine qm_ ?_)|((with_reducible refine gld_ 3 rfl ?_);refine lc3_ ?_)|((with_reducible refine gld_ 4 rfl ?_);refine lc4_ ?_)|((with_reducible refine gst_ 52 rfl ?_);refine sa52_ ?_)|((with_reducible refine gld_ 52 rfl ?_);refine la52_ ?_))
      go_meet
      case rel=>exact ⟨_,(false),Z35,H',⟨by first | omega | exact Nat.le_refl _⟩,⟨pk_ Ma.out⟩,⟨pB_ HB.out⟩⟩
     ·rw [if_neg g] at H
      have X:((a.length:Int) == 8)=false:=beq_eq_false_iff_ne.mpr g;have Z:((a.length:Int) != 8)=true:=bne_iff_ne.mpr g
      by_cases i:(a.length:Int)=16
      ·rw [if_pos i] at H
       have aa:((a.length:Int) == 16)=true:=beq_iff_eq.mpr i;have ab:((a.length:Int) != 16)=false:=bne_eq_false_iff_eq.mpr i;clear i;have H':=D H;clear H;have Ue:=ql_ Ma.out
       go_wp2_with (first|((with_reducible refine gld_ 32 rfl ?_);refine qm_ ?_)|((with_reducible refine gld_ 3 rfl ?_);refine lc3_ ?_)|((with_reducible refine gld_ 4 rfl ?_);refine lc4_ ?_)|((with_reducible refine gst_ 52 rfl ?_);refine sa52_ ?_)|((with_reducible refine gld_ 52 rfl ?_);refine la52_ ?_))
       go_meet
       case rel=>exact ⟨_,(false),Z35,H',⟨by first | omega | exact Nat.le_refl _⟩,⟨pk_ Ma.out⟩,⟨pB_ HB.out⟩⟩
      ·rw [if_neg i] at H
       have aa:((a.length:Int) == 16)=false:=beq_eq_false_iff_ne.mpr i;have ab:((a.length:Int) != 16)=true:=bne_iff_ne.mpr i
       by_cases j:(a.length:Int)=32
       ·rw [if_pos j] at H
        have ac:((a.length:Int) == 32)=true:=beq_iff_eq.mpr j;have ad:((a.length:Int) != 32)=false:=bne_eq_false_iff_eq.mpr j;clear j;have H':=D H;clear H;have Mf:=ql_ Ma.out
        go_wp2_with (first|((with_reducible refine gld_ 32 rfl ?_);refine qm_ ?_)|((with_reducible refine gld_ 3 rfl ?_);refine lc3_ ?_)|((with_reducible refine gld_ 4 rfl ?_);refine lc4_ ?_)|((with_reducible refine gst_ 52 rfl ?_);refine sa52_ ?_)|((with_reducible refine gld_ 52 rfl ?_);refine la52_ ?_))
        go_meet
        case rel=>exact ⟨_,(false),Z35,H',⟨by first | omega | exact Nat.le_refl _⟩,⟨pk_ Ma.out⟩,⟨pB_ HB.out⟩⟩
       ·rw [if_neg j] at H
        have ac:((a.length:Int) == 32)=false:=beq_eq_false_iff_ne.mpr j;have ad:((a.length:Int) != 32)=true:=bne_iff_ne.mpr j;have H':=D H;clear H;have Jg:=ql_ Ma.out
        go_wp2_with (first|((with_reducible refine gld_ 32 rfl ?_);refine qm_ ?_)|((with_reducible refine gld_ 3 rfl ?_);refine lc3_ ?_)|((with_reducible refine gld_ 4 rfl ?_);refine lc4_ ?_)|((with_reducible refine gst_ 52 rfl ?_);refine sa52_ ?_)|((with_reducible refine gld_ 52 rfl ?_);refine la52_ ?_))
        go_meet
        case rel=>exact ⟨_,(((a.length:Int) != 64)),Z35,H',⟨by first | omega | exact Nat.le_refl _⟩,⟨pk_ Ma.out⟩,⟨pB_ HB.out⟩⟩
 case rest =>
  clear aM
  (try clear c1);(try clear B);(try clear c5);(try clear v);(try clear c7);(try clear T);(try clear c9);(try clear U);(try clear W);(try clear g);(try clear X);(try clear Z);(try clear i);(try clear aa);(try clear ab);(try clear j);(try clear ac);(try clear ad);(try clear aO);(try clear Md);(try clear Je);(try clear Ue);(try clear Mf);(try clear Jg);(try clear Jb);(try clear Xb);(try clear Oc Uc Xc Jd)
  obtain ⟨kq,Ub,rfl,HA,m,Ma,HB⟩:=hcut
  cases kq with
  | zero=>exact absurd HA.out (by simp [spec_TableOk.j0])
  | succ kj1 =>
   have H:=HA.out;clear HA;simp only [spec_TableOk.j0] at H
   by_cases x:Ub=true
   ·subst x
    rw [if_pos rfl] at H;obtain rfl:=Option.some.inj H
    go_wp2_with (first|((with_reducible refine gld_ 32 rfl ?_);refine qm_ ?_)|((with_reducible refine gld_ 3 rfl ?_);refine lc3_ ?_)|((with_reducible refine gld_ 4 rfl ?_);refine lc4_ ?_)|((with_reducible refine gst_ 52 rfl ?_);refine sa52_ ?_)|((with_reducible refine gld_ 52 rfl ?_);refine la52_ ?_))
    go_ret;exact ⟨er_,pB_ HB.out⟩
   ·replace x:=Bool.eq_false_iff.mpr x
    subst x;rw [if_neg (show ¬ (false=true) by decide)] at H;obtain ⟨Ug,a1,H⟩:=bs_.mp H;(try dsimp only at H);have bB:=D a1;clear a1;have a2:=D H;clear H;have Kh:=ql_ Ma.out
    go_upto_if 43 with (first|((with_reducible refine gld_ 32 rfl ?_);refine qm_ ?_)|((with_reducible refine gld_ 3 rfl ?_);refine lc3_ ?_)|((with_reducible refine gld_ 4 rfl ?_);refine lc4_ ?_)|((with_reducible refine gst_ 52 rfl ?_);refine sa52_ ?_)|((with_reducible refine gld_ 52 rfl ?_);refine la52_ ?_)|((with_reducible refine qd_ (f:=21) rfl ?_);refine qk_ (some 39) rfl rfl Try.func21 (by kernel_rfl) rfl #[.agg #[I L c,Y A a.length l]] rfl Z12 ?_;(with_reducible refine (spec_l11Count.calls kj1 c _ _ a Ug _ ?side1 ?side2 bB.out).mono ?_);(case side1=>exact pC_ (Kd.C_below P.out HB.out));(case side2=>exact aL.out);rintro e bT ⟨rfl,hb⟩;refine ⟨_,rfl,?_⟩;have n_:=an_ (qb_ (pk_ Ma.out) hb)<|D (qc_ (pB_ HB.out) hb);clear Ma HB;obtain ⟨Ma,HB⟩:=n_;(try clear hb)))
    have H:=a2.out;clear a2
    by_cases o:(wrap64 (4 * Ug)) > (wrap64 (3 * (a.length:Int)))
    ·rw [if_pos o] at H
     have E:decide ((wrap64 (3 * (a.length:Int))) < (wrap64 (4 * Ug)))=true:=decide_eq_true o;clear o;refine rw_ E ?_;obtain rfl:=Option.some.inj H
     go_wp2_with (first|((with_reducible refine gld_ 32 rfl ?_);refine qm_ ?_)|((with_reducible refine gld_ 3 rfl ?_);refine lc3_ ?_)|((with_reducible refine gld_ 4 rfl ?_);refine lc4_ ?_)|((with_reducible refine gst_ 52 rfl ?_);refine sa52_ ?_)|((with_reducible refine gld_ 52 rfl ?_);refine la52_ ?_))
     go_ret;exact ⟨er_,pB_ HB.out⟩
    ·rw [if_neg o] at H
     have E:decide ((wrap64 (3 * (a.length:Int))) < (wrap64 (4 * Ug)))=false:=decide_eq_false o;clear o;refine rw_ E ?_;have H':=D H;clear H
     go_wp2_with (first|((with_reducible refine gld_ 32 rfl ?_);refine qm_ ?_)|((with_reducible refine gld_ 3 rfl ?_);refine lc3_ ?_)|((with_reducible refine gld_ 4 rfl ?_);refine lc4_ ?_)|((with_reducible refine gst_ 52 rfl ?_);refine sa52_ ?_)|((with_reducible refine gld_ 52 rfl ?_);refine la52_ ?_))
     go_loopg [4] kj1 (fun kq v4 w'=>∃ (b:Int),v4=I L b∧Aside0 (spec_TableOk.l0 kq (a.length:Int) b c a=some r)∧Aside0 (kq≤kj1)∧Aside0 (w'.heap[Ua]?=some (.cells #[I L c,(Y A a.length l)] 26 (0,0)))∧Aside0 (Below w.heap.size w w'))
     case atStart=>exact ⟨(0),Z35,H',⟨Nat.le_refl _⟩,⟨pk_ Ma.out⟩,⟨pB_ HB.out⟩⟩
     case round =>
      clear H'
      (try clear c1);(try clear c2);(try clear B);(try clear c5);(try clear v);(try clear p6);(try clear c7);(try clear T);(try clear c9);(try clear U);(try clear W);(try clear g);(try clear X);(try clear Z);(try clear i);(try clear aa);(try clear ab);(try clear j);(try clear ac);(try clear ad);(try clear aO);(try clear x);(try clear a3);(try clear o);(try clear E);(try clear Md);(try clear Je);(try clear Ue);(try clear Mf);(try clear Jg);(try clear Kh);(try clear Jb);(try clear Xb);(try clear Oc Uc Xc Jd);(try clear B)
      obtain ⟨b,rfl,HA,n,Ma,HB⟩:=hrel
      cases gk with
      | zero=>exact absurd HA.out (by simp [spec_TableOk.l0])
      | succ p =>
       have H:=HA.out;clear HA;simp only [spec_TableOk.l0] at H
       by_cases q:b < (a.length:Int)
       ·rw [if_pos q] at H
        have aP:decide (b < (a.length:Int))=true:=decide_eq_true q;clear q
        by_cases G:0≤b
        ·rw [if_pos G] at H
         have a4:decide (0≤b)=true:=decide_eq_true G;clear G
         by_cases J:b < (a.length:Int)
         ·rw [if_pos J] at H
          have a5:decide (b < (a.length:Int))=true:=decide_eq_true J;clear J;have a6:=D H;clear H;have Ji:=ql_ Ma.out;have ae:0≤(b:Int):=od_ Z22;have af:b < (a.length:Int):=od_ Z22;obtain ⟨ag,bC,al,am,an,ao,ap,aq,ar,au,av,aw,ax,ay,az,aA,aB,aC⟩:=at_T52 P.out b ae af;cases bC;replace al:=rc_ HB.out al;replace am:=rc_ HB.out am;replace an:=rc_ HB.out an;replace ao:=rc_ HB.out ao;replace ap:=rc_ HB.out ap;replace aq:=rc_ HB.out aq;replace ar:=rc_ HB.out ar;replace au:=rc_ HB.out au;replace av:=rc_ HB.out av;replace aw:=rc_ HB.out aw;replace ax:=rc_ HB.out ax;replace ay:=rc_ HB.out ay;replace az:=rc_ HB.out az;replace aA:=rc_ HB.out aA;replace aB:=rc_ HB.out aB;replace aC:=rc_ HB.out aC;replace ae:=eq_true ae;replace af:=eq_true af
          go_upto_if 56 with (first|((with_reducible refine gld_ 32 rfl ?_);refine qm_ ?_)|((with_reducible refine gld_ 3 rfl ?_);refine lc3_ ?_)|((with_reducible refine gld_ 4 rfl ?_);refine lc4_ ?_)|((with_reducible refine gst_ 52 rfl ?_);refine sa52_ ?_)|((with_reducible refine gld_ 52 rfl ?_);refine la52_ ?_)|((with_reducible refine qg_ (N:=5) rfl ?_);refine bx_ (N:=5) (cs:=#[.bool false,I L 0,I L 0,I L 0,I L 0,I L 0,I L 0,I L 0,I L 0,I L 0,I L 0,I L 0,I L 0,I L 0,I L 0,I L 0]) (t:=52) ?_;intro Ka hg bU hbox hb;have n_:=an_ (qb_ (pk_ Ma.out) hb)<|an_ (qc_ (pB_ HB.out) hb)<|an_ (hbox)<|an_ (bg_ hg (pB_ HB.out):w.heap.size≤Ka)<|an_ (bg_ hg (pB_ HB.out):w.heap.size≤Ka)<|an_ (nl_ hg (pk_ Ma.out):Ua≠Ka)<|D (by rw [hg];exact Nat.ne_of_gt (qz_ (pk_ Ma.out)):Ka≠Ua);clear Ma HB;obtain ⟨Ma,HB,Ja,On2,Un2,Oa,Xa⟩:=n_;clear hb hbox hg;(try have:=Xa.out);(try have:=Oa.out)))
          refine relet_ (F:=fun aD=>Aside0 (aD.heap[Ua]?=some (.cells #[I L c,Y (some ag) a.length l] 26 (0,0)))∧Aside0 (aD.heap[Ka]?=some (.cells #[.bool ((qa_ a b).f0),I L ((qa_ a b).f1.f0),I L ((qa_ a b).f1.f1.f0.f0),I L ((qa_ a b).f1.f1.f0.f1),I L ((qa_ a b).f1.f1.f0.f2),I L ((qa_ a b).f1.f1.f0.f3),I L ((qa_ a b).f1.f1.f0.f4),I L ((qa_ a b).f1.f1.f1.f0),I L ((qa_ a b).f1.f1.f1.f1),I L ((qa_ a b).f1.f1.f1.f2),I L ((qa_ a b).f1.f1.f1.f3),I L ((qa_ a b).f1.f1.f1.f4),I L ((qa_ a b).f1.f1.f2),I L ((qa_ a b).f1.f1.f3),I L ((qa_ a b).f1.f1.f4),I L ((qa_ a b).f2)] 52 (0,0)))∧Aside0 (Below w.heap.size w aD)) ⟨⟨pP_ Ma.out⟩,⟨pP_ Ja.out⟩,⟨pB_ HB.out⟩⟩ ?_
          (try clear Ma);(try clear Ja);(try clear HB);rintro aD ⟨Ma,Ja,HB⟩;have H:=a6.out;clear a6;obtain ⟨y,aQ⟩:∃ b_:Bool,b_=((qa_ a b).f0):=⟨_,rfl⟩
          replace H:(if (y=true) then ((spec_FlowKeyOk.f ((qa_ a b).f1.f0) ((qa_ a b).f1.f1.f0.f0) ((qa_ a b).f1.f1.f0.f1) ((qa_ a b).f1.f1.f0.f2) ((qa_ a b).f1.f1.f0.f3) ((qa_ a b).f1.f1.f0.f4) ((qa_ a b).f1.f1.f1.f0) ((qa_ a b).f1.f1.f1.f1) ((qa_ a b).f1.f1.f1.f2) ((qa_ a b).f1.f1.f1.f3) ((qa_ a b).f1.f1.f1.f4) ((qa_ a b).f1.f1.f2) ((qa_ a b).f1.f1.f3) ((qa_ a b).f1.f1.f4)).bind fun Xh=>(if Xh=true then (if ((qa_ a b).f2) < 0 then (spec_TableOk.j2 p (a.length:Int) b true c a y ((qa_ a b).f1.f0) ((qa_ a b).f1.f1.f0.f0) ((qa_ a b).f1.f1.f0.f1) ((qa_ a b).f1.f1.f0.f2) ((qa_ a b).f1.f1.f0.f3) ((qa_ a b).f1.f1.f0.f4) ((qa_ a b).f1.f1.f1.f0) ((qa_ a b).f1.f1.f1.f1) ((qa_ a b).f1.f1.f1.f2) ((qa_ a b).f1.f1.f1.f3) ((qa_ a b).f1.f1.f1.f4) ((qa_ a b).f1.f1.f2) ((qa_ a b).f1.f1.f3) ((qa_ a b).f1.f1.f4) ((qa_ a b).f2)) else (if ((qa_ a b).f2) > 1000000000000 then (spec_TableOk.j2 p (a.length:Int) b true c a y ((qa_ a b).f1.f0) ((qa_ a b).f1.f1.f0.f0) ((qa_ a b).f1.f1.f0.f1) ((qa_ a b).f1.f1.f0.f2) ((qa_ a b).f1.f1.f0.f3) ((qa_ a b).f1.f1.f0.f4) ((qa_ a b).f1.f1.f1.f0) ((qa_ a b).f1.f1.f1.f1) ((qa_ a b).f1.f1.f1.f2) ((qa_ a b).f1.f1.f1.f3) ((qa_ a b).f1.f1.f1.f4) ((qa_ a b).f1.f1.f2) ((qa_ a b).f1.f1.f3) ((qa_ a b).f1.f1.f4) ((qa_ a b).f2)) else ((spec_l11Place.f p c a ((qa_ a b).f1.f0) ((qa_ a b).f1.f1.f0.f0) ((qa_ a b).f1.f1.f0.f1) ((qa_ a b).f1.f1.f0.f2) ((qa_ a b).f1.f1.f0.f3) ((qa_ a b).f1.f1.f0.f4) ((qa_ a b).f1.f1.f1.f0) ((qa_ a b).f1.f1.f1.f1) ((qa_ a b).f1.f1.f1.f2) ((qa_ a b).f1.f1.f1.f3) ((qa_ a b).f1.f1.f1.f4) ((qa_ a b).f1.f1.f2) ((qa_ a b).f1.f1.f3) ((qa_ a b).f1.f1.f4)).bind fun Xg=>(spec_TableOk.j2 p (a.length:Int) b (Xg != b) c a y ((qa_ a b).f1.f0) ((qa_ a b).f1.f1.f0.f0) ((qa_ a b).f1.f1.f0.f1) ((qa_ a b).f1.f1.f0.f2) ((qa_ a b).f1.f1.f0.f3) ((qa_ a b).f1.f1.f0.f4) ((qa_ a b).f1.f1.f1.f0) ((qa_ a b).f1.f1.f1.f1) ((qa_ a b).f1.f1.f1.f2) ((qa_ a b).f1.f1.f1.f3) ((qa_ a b).f1.f1.f1.f4) ((qa_ a b).f1.f1.f2) ((qa_ a b).f1.f1.f3) ((qa_ a b).f1.f1.f4) ((qa_ a b).f2))))) else (spec_TableOk.j2 p (a.length:Int) b true c a y ((qa_ a b).f1.f0) ((qa_ a b).f1.f1.f0.f0) ((qa_ a b).f1.f1.f0.f1) ((qa_ a b).f1.f1.f0.f2) ((qa_ a b).f1.f1.f0.f3) ((qa_ a b).f1.f1.f0.f4) ((qa_ a b).f1.f1.f1.f0) ((qa_ a b).f1.f1.f1.f1) ((qa_ a b).f1.f1.f1.f2) ((qa_ a b).f1.f1.f1.f3) ((qa_ a b).f1.f1.f1.f4) ((qa_ a b).f1.f1.f2) ((qa_ a b).f1.f1.f3) ((qa_ a b).f1.f1.f4) ((qa_ a b).f2)))) else (if ((y) || ((!(((qa_ a b).f1.f0) == 0) || (((!(((qa_ a b).f1.f1.f0.f0) == 0) || (!(((qa_ a b).f1.f1.f0.f1) == 0) || (!(((qa_ a b).f1.f1.f0.f2) == 0) || (!(((qa_ a b).f1.f1.f0.f3) == 0) || (!(((qa_ a b).f1.f1.f0.f4) == 0)))))) || ((!(((qa_ a b).f1.f1.f1.f0) == 0) || (!(((qa_ a b).f1.f1.f1.f1) == 0) || (!(((qa_ a b).f1.f1.f1.f2) == 0) || (!(((qa_ a b).f1.f1.f1.f3) == 0) || (!(((qa_ a b).f1.f1.f1.f4) == 0)))))) || (!(((qa_ a b).f1.f1.f2) == 0) || (!(((qa_ a b).f1.f1.f3) == 0) || (!(((qa_ a b).f1.f1.f4) == 0)))))))) || (!(((qa_ a b).f2) == 0))))=true then (some false) else (spec_TableOk.l0 p (a.length:Int) (wrap64 (b+1)) c a)))=some r:=by rw [← aQ] at H;exact H
          have aE:=D aQ;clear aQ;(try rw [← aE.out]);(try rw [← aE.out] at Ja)
          by_cases K:(y=true)
          ·subst K;(try simp only [Bool.not_true,Bool.not_false])
           rw [if_pos rfl] at H;have aR:=D H;clear H
           go_upto_region 13 with (first|((with_reducible refine gld_ 32 rfl ?_);refine qm_ ?_)|((with_reducible refine gld_ 3 rfl ?_);refine lc3_ ?_)|((with_reducible refine gld_ 4 rfl ?_);refine lc4_ ?_)|((with_reducible refine gst_ 52 rfl ?_);refine sa52_ ?_)|((with_reducible refine gld_ 52 rfl ?_);refine la52_ ?_))
           go_cut [81] (fun bD wc=>∃ (kq:Nat) (Jh:Bool),bD=.bool Jh∧Aside0 (spec_TableOk.j2 kq (a.length:Int) b Jh c a true ((qa_ a b).f1.f0) ((qa_ a b).f1.f1.f0.f0) ((qa_ a b).f1.f1.f0.f1) ((qa_ a b).f1.f1.f0.f2) ((qa_ a b).f1.f1.f0.f3) ((qa_ a b).f1.f1.f0.f4) ((qa_ a b).f1.f1.f1.f0) ((qa_ a b).f1.f1.f1.f1) ((qa_ a b).f1.f1.f1.f2) ((qa_ a b).f1.f1.f1.f3) ((qa_ a b).f1.f1.f1.f4) ((qa_ a b).f1.f1.f2) ((qa_ a b).f1.f1.f3) ((qa_ a b).f1.f1.f4) ((qa_ a b).f2)=some r)∧Aside0 (kq≤p)∧Aside0 (wc.heap[Ua]?=some (.cells #[I L c,(Y (some ag) a.length l)] 26 (0,0)))∧Aside0 (wc.heap[Ka]?=some (.cells #[.bool true,I L ((qa_ a b).f1.f0),I L ((qa_ a b).f1.f1.f0.f0),I L ((qa_ a b).f1.f1.f0.f1),I L ((qa_ a b).f1.f1.f0.f2),I L ((qa_ a b).f1.f1.f0.f3),I L ((qa_ a b).f1.f1.f0.f4),I L ((qa_ a b).f1.f1.f1.f0),I L ((qa_ a b).f1.f1.f1.f1),I L ((qa_ a b).f1.f1.f1.f2),I L ((qa_ a b).f1.f1.f1.f3),I L ((qa_ a b).f1.f1.f1.f4),I L ((qa_ a b).f1.f1.f2),I L ((qa_ a b).f1.f1.f3),I L ((qa_ a b).f1.f1.f4),I L ((qa_ a b).f2)] 52 (0,0)))∧Aside0 (Below w.heap.size w wc))
           case first =>
            have H:=aR.out;clear aR;obtain ⟨Xh,a7,H⟩:=bs_.mp H;(try dsimp only at H);have aF:=D a7;clear a7
            by_cases M:Xh=true
            ·subst M
             rw [if_pos rfl] at H
             by_cases s:((qa_ a b).f2) < 0
             ·rw [if_pos s] at H
              have ah:decide (((qa_ a b).f2) < 0)=true:=decide_eq_true s;clear s;refine rw_ ah ?_;have H':=D H;clear H;(try have:=Xa.out);(try have:=Oa.out)
              go_wp2_with (first|((with_reducible refine gld_ 32 rfl ?_);refine qm_ ?_)|((with_reducible refine gld_ 3 rfl ?_);refine lc3_ ?_)|((with_reducible refine gld_ 4 rfl ?_);refine lc4_ ?_)|((with_reducible refine gst_ 52 rfl ?_);refine sa52_ ?_)|((with_reducible refine gld_ 52 rfl ?_);refine la52_ ?_)|((with_reducible refine qd_ (f:=18) rfl ?_);refine qk_ (some 62) rfl rfl Try.func18 (by kernel_rfl) rfl #[.agg #[I L ((qa_ a b).f1.f0),I L ((qa_ a b).f1.f1.f0.f0),I L ((qa_ a b).f1.f1.f0.f1),I L ((qa_ a b).f1.f1.f0.f2),I L ((qa_ a b).f1.f1.f0.f3),I L ((qa_ a b).f1.f1.f0.f4),I L ((qa_ a b).f1.f1.f1.f0),I L ((qa_ a b).f1.f1.f1.f1),I L ((qa_ a b).f1.f1.f1.f2),I L ((qa_ a b).f1.f1.f1.f3),I L ((qa_ a b).f1.f1.f1.f4),I L ((qa_ a b).f1.f1.f2),I L ((qa_ a b).f1.f1.f3),I L ((qa_ a b).f1.f1.f4)]] rfl Z12 ?_;(with_reducible refine (spec_FlowKeyOk.calls ((qa_ a b).f1.f0) ((qa_ a b).f1.f1.f0.f0) ((qa_ a b).f1.f1.f0.f1) ((qa_ a b).f1.f1.f0.f2) ((qa_ a b).f1.f1.f0.f3) ((qa_ a b).f1.f1.f0.f4) ((qa_ a b).f1.f1.f1.f0) ((qa_ a b).f1.f1.f1.f1) ((qa_ a b).f1.f1.f1.f2) ((qa_ a b).f1.f1.f1.f3) ((qa_ a b).f1.f1.f1.f4) ((qa_ a b).f1.f1.f2) ((qa_ a b).f1.f1.f3) ((qa_ a b).f1.f1.f4) true _ aF.out).mono ?_);rintro e bV ⟨rfl,hb⟩;refine ⟨_,rfl,?_⟩;have n_:=an_ (qb_ (pk_ Ma.out) hb)<|an_ (qb_ (pk_ Ja.out) hb)<|D (qc_ (pB_ HB.out) hb);clear Ma Ja HB;obtain ⟨Ma,Ja,HB⟩:=n_;(try clear hb)))
              go_meet
              case rel=>exact ⟨_,(true),Z35,H',⟨by have:=m.out;have:=n.out;first | omega | exact Nat.le_refl _⟩,⟨pk_ Ma.out⟩,⟨pk_ Ja.out⟩,⟨pB_ HB.out⟩⟩
             ·rw [if_neg s] at H
              have ah:decide (((qa_ a b).f2) < 0)=false:=decide_eq_false s;clear s;refine rw_ ah ?_
              by_cases u:((qa_ a b).f2) > 1000000000000
              ·rw [if_pos u] at H
               have aS:decide (1000000000000 < ((qa_ a b).f2))=true:=decide_eq_true u;clear u;have H':=D H;clear H;(try have:=Xa.out);(try have:=Oa.out)
               go_wp2_with (first|((with_reducible refine gld_ 32 rfl ?_);refine qm_ ?_)|((with_reducible refine gld_ 3 rfl ?_);refine lc3_ ?_)|((with_reducible refine gld_ 4 rfl ?_);refine lc4_ ?_)|((with_reducible refine gst_ 52 rfl ?_);refine sa52_ ?_)|((with_reducible refine gld_ 52 rfl ?_);refine la52_ ?_)|((with_reducible refine qd_ (f:=18) rfl ?_);refine qk_ (some 62) rfl rfl Try.func18 (by kernel_rfl) rfl #[.agg #[I L ((qa_ a b).f1.f0),I L ((qa_ a b).f1.f1.f0.f0),I L ((qa_ a b).f1.f1.f0.f1),I L ((qa_ a b).f1.f1.f0.f2),I L ((qa_ a b).f1.f1.f0.f3),I L ((qa_ a b).f1.f1.f0.f4),I L ((qa_ a b).f1.f1.f1.f0),I L ((qa_ a b).f1.f1.f1.f1),I L ((qa_ a b).f1.f1.f1.f2),I L ((qa_ a b).f1.f1.f1.f3),I L ((qa_ a b).f1.f1.f1.f4),I L ((qa_ a b).f1.f1.f2),I L ((qa_ a b).f1.f1.f3),I L ((qa_ a b).f1.f1.f4)]] rfl Z12 ?_;(with_reducible refine (spec_FlowKeyOk.calls ((qa_ a b).f1.f0) ((qa_ a b).f1.f1.f0.f0) ((qa_ a b).f1.f1.f0.f1) ((qa_ a b).f1.f1.f0.f2) ((qa_ a b).f1.f1.f0.f3) ((qa_ a b).f1.f1.f0.f4) ((qa_ a b).f1.f1.f1.f0) ((qa_ a b).f1.f1.f1.f1) ((qa_ a b).f1.f1.f1.f2) ((qa_ a b).f1.f1.f1.f3) ((qa_ a b).f1.f1.f1.f4) ((qa_ a b).f1.f1.f2) ((qa_ a b).f1.f1.f3) ((qa_ a b).f1.f1.f4) true _ aF.out).mono ?_);rintro e bW ⟨rfl,hb⟩;refine ⟨_,rfl,?_⟩;have n_:=an_ (qb_ (pk_ Ma.out) hb)<|an_ (qb_ (pk_ Ja.out) hb)<|D (qc_ (pB_ HB.out) hb);clear Ma Ja HB;obtain ⟨Ma,Ja,HB⟩:=n_;(try clear hb)))
               go_meet
               case rel=>exact ⟨_,(true),Z35,H',⟨by have:=m.out;have:=n.out;first | omega | exact Nat.le_refl _⟩,⟨pk_ Ma.out⟩,⟨pk_ Ja.out⟩,⟨pB_ HB.out⟩⟩
              ·rw [if_neg u] at H
               have aS:decide (1000000000000 < ((qa_ a b).f2))=false:=decide_eq_false u;clear u;obtain ⟨Xg,a8,H⟩:=bs_.mp H;(try dsimp only at H);have bE:=D a8;clear a8;have H':=D H;clear H;(try have:=Xa.out);(try have:=Oa.out)
               go_wp2_with (first|((with_reducible refine gld_ 32 rfl ?_);refine qm_ ?_)|((with_reducible refine gld_ 3 rfl ?_);refine lc3_ ?_)|((with_reducible refine gld_ 4 rfl ?_);refine lc4_ ?_)|((with_reducible refine gst_ 52 rfl ?_);refine sa52_ ?_)|((with_reducible refine gld_ 52 rfl ?_);refine la52_ ?_)|((with_reducible refine qd_ (f:=18) rfl ?_);refine qk_ (some 62) rfl rfl Try.func18 (by kernel_rfl) rfl #[.agg #[I L ((qa_ a b).f1.f0),I L ((qa_ a b).f1.f1.f0.f0),I L ((qa_ a b).f1.f1.f0.f1),I L ((qa_ a b).f1.f1.f0.f2),I L ((qa_ a b).f1.f1.f0.f3),I L ((qa_ a b).f1.f1.f0.f4),I L ((qa_ a b).f1.f1.f1.f0),I L ((qa_ a b).f1.f1.f1.f1),I L ((qa_ a b).f1.f1.f1.f2),I L ((qa_ a b).f1.f1.f1.f3),I L ((qa_ a b).f1.f1.f1.f4),I L ((qa_ a b).f1.f1.f2),I L ((qa_ a b).f1.f1.f3),I L ((qa_ a b).f1.f1.f4)]] rfl Z12 ?_;(with_reducible refine (spec_FlowKeyOk.calls ((qa_ a b).f1.f0) ((qa_ a b).f1.f1.f0.f0) ((qa_ a b).f1.f1.f0.f1) ((qa_ a b).f1.f1.f0.f2) ((qa_ a b).f1.f1.f0.f3) ((qa_ a b).f1.f1.f0.f4) ((qa_ a b).f1.f1.f1.f0) ((qa_ a b).f1.f1.f1.f1) ((qa_ a b).f1.f1.f1.f2) ((qa_ a b).f1.f1.f1.f3) ((qa_ a b).f1.f1.f1.f4) ((qa_ a b).f1.f1.f2) ((qa_ a b).f1.f1.f3) ((qa_ a b).f1.f1.f4) true _ aF.out).mono ?_);rintro e bX ⟨rfl,hb⟩;refine ⟨_,rfl,?_⟩;have n_:=an_ (qb_ (pk_ Ma.out) hb)<|an_ (qb_ (pk_ Ja.out) hb)<|D (qc_ (pB_ HB.out) hb);clear Ma Ja HB;obtain ⟨Ma,Ja,HB⟩:=n_;(try clear hb);have Ja2:=ql_ Ma.out)|(go_at_call 19;(with_reducible refine (spec_l11Place.calls p c _ _ a ((qa_ a b).f1.f0) ((qa_ a b).f1.f1.f0.f0) ((qa_ a b).f1.f1.f0.f1) ((qa_ a b).f1.f1.f0.f2) ((qa_ a b).f1.f1.f0.f3) ((qa_ a b).f1.f1.f0.f4) ((qa_ a b).f1.f1.f1.f0) ((qa_ a b).f1.f1.f1.f1) ((qa_ a b).f1.f1.f1.f2) ((qa_ a b).f1.f1.f1.f3) ((qa_ a b).f1.f1.f1.f4) ((qa_ a b).f1.f1.f2) ((qa_ a b).f1.f1.f3) ((qa_ a b).f1.f1.f4) Xg _ ?side1 ?side2 bE.out).mono ?_);(case side1=>exact pC_ (Kd.C_below P.out HB.out));(case side2=>exact aL.out);rintro e bY ⟨rfl,hb⟩;have n_:=an_ (qb_ (pk_ Ma.out) hb)<|an_ (qb_ (pk_ Ja.out) hb)<|D (qc_ (pB_ HB.out) hb);clear Ma Ja HB;obtain ⟨Ma,Ja,HB⟩:=n_;(try clear hb)))
               go_meet
               case rel=>exact ⟨_,((Xg != b)),Z35,H',⟨by have:=m.out;have:=n.out;first | omega | exact Nat.le_refl _⟩,⟨pk_ Ma.out⟩,⟨pk_ Ja.out⟩,⟨pB_ HB.out⟩⟩
            ·replace M:=Bool.eq_false_iff.mpr M
             subst M;rw [if_neg (show ¬ (false=true) by decide)] at H;have H':=D H;clear H;(try have:=Xa.out);(try have:=Oa.out)
             go_wp2_with (first|((with_reducible refine gld_ 32 rfl ?_);refine qm_ ?_)|((with_reducible refine gld_ 3 rfl ?_);refine lc3_ ?_)|((with_reducible refine gld_ 4 rfl ?_);refine lc4_ ?_)|((with_reducible refine gst_ 52 rfl ?_);refine sa52_ ?_)|((with_reducible refine gld_ 52 rfl ?_);refine la52_ ?_)|((with_reducible refine qd_ (f:=18) rfl ?_);refine qk_ (some 62) rfl rfl Try.func18 (by kernel_rfl) rfl #[.agg #[I L ((qa_ a b).f1.f0),I L ((qa_ a b).f1.f1.f0.f0),I L ((qa_ a b).f1.f1.f0.f1),I L ((qa_ a b).f1.f1.f0.f2),I L ((qa_ a b).f1.f1.f0.f3),I L ((qa_ a b).f1.f1.f0.f4),I L ((qa_ a b).f1.f1.f1.f0),I L ((qa_ a b).f1.f1.f1.f1),I L ((qa_ a b).f1.f1.f1.f2),I L ((qa_ a b).f1.f1.f1.f3),I L ((qa_ a b).f1.f1.f1.f4),I L ((qa_ a b).f1.f1.f2),I L ((qa_ a b).f1.f1.f3),I L ((qa_ a b).f1.f1.f4)]] rfl Z12 ?_;(with_reducible refine (spec_FlowKeyOk.calls ((qa_ a b).f1.f0) ((qa_ a b).f1.f1.f0.f0) ((qa_ a b).f1.f1.f0.f1) ((qa_ a b).f1.f1.f0.f2) ((qa_ a b).f1.f1.f0.f3) ((qa_ a b).f1.f1.f0.f4) ((qa_ a b).f1.f1.f1.f0) ((qa_ a b).f1.f1.f1.f1) ((qa_ a b).f1.f1.f1.f2) ((qa_ a b).f1.f1.f1.f3) ((qa_ a b).f1.f1.f1.f4) ((qa_ a b).f1.f1.f2) ((qa_ a b).f1.f1.f3) ((qa_ a b).f1.f1.f4) false _ aF.out).mono ?_);rintro e bZ ⟨rfl,hb⟩;refine ⟨_,rfl,?_⟩;have n_:=an_ (qb_ (pk_ Ma.out) hb)<|an_ (qb_ (pk_ Ja.out) hb)<|D (qc_ (pB_ HB.out) hb);clear Ma Ja HB;obtain ⟨Ma,Ja,HB⟩:=n_;(try clear hb)))
             go_meet
             case rel=>exact ⟨_,(true),Z35,H',⟨by have:=m.out;have:=n.out;first | omega | exact Nat.le_refl _⟩,⟨pk_ Ma.out⟩,⟨pk_ Ja.out⟩,⟨pB_ HB.out⟩⟩
           case rest =>
            clear aR
            (try clear c1);(try clear c2);(try clear B);(try clear q2);(try clear bF);(try clear c3);(try clear q3);(try clear c4);(try clear c5);(try clear v);(try clear p6);(try clear c7);(try clear T);(try clear c9);(try clear U);(try clear W);(try clear g);(try clear X);(try clear Z);(try clear i);(try clear aa);(try clear ab);(try clear j);(try clear ac);(try clear ad);(try clear aO);(try clear x);(try clear a3);(try clear bb);(try clear bc);(try clear bG);(try clear o);(try clear E);(try clear q);(try clear aP);(try clear G);(try clear a4);(try clear J);(try clear a5);(try clear bH);(try clear bd);(try clear K);(try clear M);(try clear s);(try clear ah);(try clear bI);(try clear u);(try clear aS);(try clear bJ);(try clear bK);(try clear bL);(try clear Md);(try clear Je);(try clear Ue);(try clear Mf);(try clear Jg);(try clear Kh);(try clear Ji);skip;skip;skip;skip;skip;(try clear Jb);skip;skip;(try clear Ja2);skip;(try clear Xb);(try clear Oc Uc Xc Jd);(try clear al am ax ay az aA aB aC an ao ap aq ar au av aw);(try clear B);(try clear ae);(try clear p6);(try clear af)
            obtain ⟨kq,Jh,rfl,HA,aG,Ma,Ja,HB⟩:=hcut
            cases kq with
            | zero=>exact absurd HA.out (by simp [spec_TableOk.j2])
            | succ kj34 =>
             have H:=HA.out;clear HA;simp only [spec_TableOk.j2] at H
             by_cases ai:Jh=true
             ·subst ai
              rw [if_pos rfl] at H;obtain rfl:=Option.some.inj H
              go_wp2_with (first|((with_reducible refine gld_ 32 rfl ?_);refine qm_ ?_)|((with_reducible refine gld_ 3 rfl ?_);refine lc3_ ?_)|((with_reducible refine gld_ 4 rfl ?_);refine lc4_ ?_)|((with_reducible refine gst_ 52 rfl ?_);refine sa52_ ?_)|((with_reducible refine gld_ 52 rfl ?_);refine la52_ ?_))
              go_ret;exact ⟨er_,pB_ HB.out⟩
             ·replace ai:=Bool.eq_false_iff.mpr ai
              subst ai;rw [if_neg (show ¬ (false=true) by decide)] at H;obtain ⟨Jg2,be,H⟩:=bs_.mp H;(try dsimp only at H);have bM:=D be;clear be;have H':=D H;clear H;(try have:=Oa.out);(try have:=Xa.out);have Kg2:=ql_ Ma.out
              go_wp2_with (first|((with_reducible refine gld_ 32 rfl ?_);refine qm_ ?_)|((with_reducible refine gld_ 3 rfl ?_);refine lc3_ ?_)|((with_reducible refine gld_ 4 rfl ?_);refine lc4_ ?_)|((with_reducible refine gst_ 52 rfl ?_);refine sa52_ ?_)|((with_reducible refine gld_ 52 rfl ?_);refine la52_ ?_)|((with_reducible refine qd_ (f:=33) rfl ?_);refine qk_ (some 85) rfl rfl Try.func33 (by kernel_rfl) rfl #[.agg #[I L c,Y (some ag) a.length l],.agg #[I L ((qa_ a b).f1.f0),I L ((qa_ a b).f1.f1.f0.f0),I L ((qa_ a b).f1.f1.f0.f1),I L ((qa_ a b).f1.f1.f0.f2),I L ((qa_ a b).f1.f1.f0.f3),I L ((qa_ a b).f1.f1.f0.f4),I L ((qa_ a b).f1.f1.f1.f0),I L ((qa_ a b).f1.f1.f1.f1),I L ((qa_ a b).f1.f1.f1.f2),I L ((qa_ a b).f1.f1.f1.f3),I L ((qa_ a b).f1.f1.f1.f4),I L ((qa_ a b).f1.f1.f2),I L ((qa_ a b).f1.f1.f3),I L ((qa_ a b).f1.f1.f4)]] rfl Z12 ?_;(with_reducible refine (spec_l11Home.calls kj34 c _ _ a ((qa_ a b).f1.f0) ((qa_ a b).f1.f1.f0.f0) ((qa_ a b).f1.f1.f0.f1) ((qa_ a b).f1.f1.f0.f2) ((qa_ a b).f1.f1.f0.f3) ((qa_ a b).f1.f1.f0.f4) ((qa_ a b).f1.f1.f1.f0) ((qa_ a b).f1.f1.f1.f1) ((qa_ a b).f1.f1.f1.f2) ((qa_ a b).f1.f1.f1.f3) ((qa_ a b).f1.f1.f1.f4) ((qa_ a b).f1.f1.f2) ((qa_ a b).f1.f1.f3) ((qa_ a b).f1.f1.f4) Jg2 _ ?side1 ?side2 bM.out).mono ?_);(case side1=>exact pC_ (Kd.C_below P.out HB.out));(case side2=>exact aL.out);rintro e b0 ⟨rfl,hb⟩;refine ⟨_,rfl,?_⟩;have n_:=an_ (qb_ (pk_ Ma.out) hb)<|an_ (qb_ (pk_ Ja.out) hb)<|D (qc_ (pB_ HB.out) hb);clear Ma Ja HB;obtain ⟨Ma,Ja,HB⟩:=n_;(try clear hb)))
              go_loopg [6] kj34 (fun kq v6 w'=>∃ (d:Int),v6=I L d∧Aside0 (spec_TableOk.l1 kq (a.length:Int) b d c a=some r)∧Aside0 (kq≤kj34)∧Aside0 (w'.heap[Ua]?=some (.cells #[I L c,(Y (some ag) a.length l)] 26 (0,0)))∧Aside0 (w'.heap[Ka]?=some (.cells #[.bool true,I L ((qa_ a b).f1.f0),I L ((qa_ a b).f1.f1.f0.f0),I L ((qa_ a b).f1.f1.f0.f1),I L ((qa_ a b).f1.f1.f0.f2),I L ((qa_ a b).f1.f1.f0.f3),I L ((qa_ a b).f1.f1.f0.f4),I L ((qa_ a b).f1.f1.f1.f0),I L ((qa_ a b).f1.f1.f1.f1),I L ((qa_ a b).f1.f1.f1.f2),I L ((qa_ a b).f1.f1.f1.f3),I L ((qa_ a b).f1.f1.f1.f4),I L ((qa_ a b).f1.f1.f2),I L ((qa_ a b).f1.f1.f3),I L ((qa_ a b).f1.f1.f4),I L ((qa_ a b).f2)] 52 (0,0)))∧Aside0 (Below w.heap.size w w'))
              case atStart=>exact ⟨(Jg2),Z35,H',⟨Nat.le_refl _⟩,⟨pk_ Ma.out⟩,⟨pk_ Ja.out⟩,⟨pB_ HB.out⟩⟩
              case round =>
               clear H'
               (try clear c1);(try clear c2);(try clear B);(try clear q2);(try clear bF);(try clear c3);(try clear q3);(try clear c4);(try clear c5);(try clear v);(try clear c6);(try clear p6);(try clear c7);(try clear T);(try clear c9);(try clear U);(try clear W);(try clear g);(try clear X);(try clear Z);(try clear i);(try clear aa);(try clear ab);(try clear j);(try clear ac);(try clear ad);(try clear aO);(try clear x);(try clear a3);(try clear bb);(try clear bc);(try clear bG);(try clear o);(try clear E);(try clear q);(try clear aP);(try clear G);(try clear a4);(try clear J);(try clear a5);(try clear bH);(try clear b1);(try clear bd);(try clear K);(try clear M);(try clear s);(try clear ah);(try clear bI);(try clear u);(try clear aS);(try clear bJ);(try clear bK);(try clear bL);(try clear ai);(try clear b2);(try clear Md);(try clear Je);(try clear Ue);(try clear Mf);(try clear Jg);(try clear Kh);(try clear Ji);skip;skip;skip;skip;skip;(try clear Jb);skip;skip;(try clear Ja2);skip;(try clear Kg2);skip;(try clear Xb);(try clear Oc Uc Xc Jd);(try clear al am ax ay az aA aB aC an ao ap aq ar au av aw);(try clear B);(try clear bb);(try clear ae);(try clear p6);(try clear q2);(try clear bc);(try clear af);(try clear q3);(try clear bd)
               obtain ⟨d,rfl,HA,aH,Ma,Ja,HB⟩:=hrel
               cases gk with
               | zero=>exact absurd HA.out (by simp [spec_TableOk.l1])
               | succ k4 =>
                have H:=HA.out;clear HA;simp only [spec_TableOk.l1] at H
                by_cases z:d=b
                ·rw [if_pos z] at H
                 have bN:(d == b)=true:=beq_iff_eq.mpr z;have bO:(d != b)=false:=bne_eq_false_iff_eq.mpr z;clear z;have H':=D H;clear H
                 go_wp2_with (first|((with_reducible refine gld_ 32 rfl ?_);refine qm_ ?_)|((with_reducible refine gld_ 3 rfl ?_);refine lc3_ ?_)|((with_reducible refine gld_ 4 rfl ?_);refine lc4_ ?_)|((with_reducible refine gst_ 52 rfl ?_);refine sa52_ ?_)|((with_reducible refine gld_ 52 rfl ?_);refine la52_ ?_))
                 go_roundg k4
                 case measure=>have:=m.out;have:=n.out;have:=aG.out;have:=aH.out;omega
                 case rel=>exact ⟨(wrap64 (b+1)),Z35,H',⟨by have:=m.out;have:=n.out;have:=aG.out;have:=aH.out;omega⟩,⟨pk_ Ma.out⟩,⟨pB_ HB.out⟩⟩
                ·rw [if_neg z] at H
                 have bN:(d == b)=false:=beq_eq_false_iff_ne.mpr z;have bO:(d != b)=true:=bne_iff_ne.mpr z
                 by_cases aI:0≤d
                 ·rw [if_pos aI] at H
                  have b3:decide (0≤d)=true:=decide_eq_true aI;clear aI
                  by_cases aJ:d < (a.length:Int)
                  ·rw [if_pos aJ] at H
                   have b4:decide (d < (a.length:Int))=true:=decide_eq_true aJ;clear aJ;have bf:=D H;clear H;(try have:=Oa.out);(try have:=Xa.out);have Xn2:=ql_ Ma.out;have aU:0≤(d:Int):=od_ Z22;have aV:d < (a.length:Int):=od_ Z22;obtain ⟨bP,bQ,aW,bg,bh,bi,bj,bk,bl,bm,bn,bo,bp,bq,bs,bu,bv,bw⟩:=at_T52 P.out d aU aV;(try rw [← aE.out] at aW);(try rw [← aE.out] at b5);obtain rfl:ag=bP:=(by injection bQ);replace aW:=rc_ HB.out aW;replace bg:=rc_ HB.out bg;replace bh:=rc_ HB.out bh;replace bi:=rc_ HB.out bi;replace bj:=rc_ HB.out bj;replace bk:=rc_ HB.out bk;replace bl:=rc_ HB.out bl;replace bm:=rc_ HB.out bm;replace bn:=rc_ HB.out bn;replace bo:=rc_ HB.out bo;replace bp:=rc_ HB.out bp;replace bq:=rc_ HB.out bq;replace bs:=rc_ HB.out bs;replace bu:=rc_ HB.out bu;replace bv:=rc_ HB.out bv;replace bw:=rc_ HB.out bw;replace aU:=eq_true aU;replace aV:=eq_true aV
                   go_upto_if 99 with (first|((with_reducible refine gld_ 32 rfl ?_);refine qm_ ?_)|((with_reducible refine gld_ 3 rfl ?_);refine lc3_ ?_)|((with_reducible refine gld_ 4 rfl ?_);refine lc4_ ?_)|((with_reducible refine gst_ 52 rfl ?_);refine sa52_ ?_)|((with_reducible refine gld_ 52 rfl ?_);refine la52_ ?_))
                   have H:=bf.out;clear bf;obtain ⟨bx,aX⟩:∃ b_:Bool,b_=((qa_ a d).f0):=⟨_,rfl⟩
                   replace H:(if (bx=true) then (if (a.length:Int)=0 then (none) else (spec_TableOk.l1 k4 (a.length:Int) b (Int.tmod (wrap64 (d+1)) (a.length:Int)) c a)) else (some false))=some r:=by rw [← aX] at H;exact H
                   have bR:=D aX;clear aX;(try rw [← bR.out])
                   by_cases aK:(bx=true)
                   ·subst aK;(try simp only [Bool.not_true,Bool.not_false])
                    rw [if_pos rfl] at H
                    by_cases aj:(a.length:Int)=0
                    ·rw [if_pos aj] at H
                     exact absurd H (by simp)
                    ·rw [if_neg aj] at H
                     have b6:((a.length:Int) == 0)=false:=beq_eq_false_iff_ne.mpr aj;have b7:((a.length:Int) != 0)=true:=bne_iff_ne.mpr aj
                     have b8:¬ (a=[]):=fun h_=>aj (by rw [h_];rfl)
                     have H':=D H;clear H
                     go_wp2_with (first|((with_reducible refine gld_ 32 rfl ?_);refine qm_ ?_)|((with_reducible refine gld_ 3 rfl ?_);refine lc3_ ?_)|((with_reducible refine gld_ 4 rfl ?_);refine lc4_ ?_)|((with_reducible refine gst_ 52 rfl ?_);refine sa52_ ?_)|((with_reducible refine gld_ 52 rfl ?_);refine la52_ ?_))
                     go_roundg k4
                     case measure=>have:=m.out;have:=n.out;have:=aG.out;have:=aH.out;omega
                     case rel=>exact ⟨(Int.tmod (wrap64 (d+1)) (a.length:Int)),Z35,H',⟨by have:=m.out;have:=n.out;have:=aG.out;have:=aH.out;omega⟩,⟨pk_ Ma.out⟩,⟨pk_ Ja.out⟩,⟨pB_ HB.out⟩⟩
                   ·replace aK:=Bool.eq_false_iff.mpr aK
                    subst aK;(try simp only [Bool.not_true,Bool.not_false]);rw [if_neg (show ¬ (false=true) by decide)] at H;obtain rfl:=Option.some.inj H
                    go_wp2_with (first|((with_reducible refine gld_ 32 rfl ?_);refine qm_ ?_)|((with_reducible refine gld_ 3 rfl ?_);refine lc3_ ?_)|((with_reducible refine gld_ 4 rfl ?_);refine lc4_ ?_)|((with_reducible refine gst_ 52 rfl ?_);refine sa52_ ?_)|((with_reducible refine gld_ 52 rfl ?_);refine la52_ ?_))
                    go_ret;exact ⟨er_,pB_ HB.out⟩
                  ·rw [if_neg aJ] at H
                   exact absurd H (by simp)
                 ·rw [if_neg aI] at H
                  exact absurd H (by simp)
          ·replace K:=Bool.eq_false_iff.mpr K
           subst K;(try simp only [Bool.not_true,Bool.not_false]);rw [if_neg (show ¬ (false=true) by decide)] at H
           by_cases O:((false) || ((!(((qa_ a b).f1.f0) == 0) || (((!(((qa_ a b).f1.f1.f0.f0) == 0) || (!(((qa_ a b).f1.f1.f0.f1) == 0) || (!(((qa_ a b).f1.f1.f0.f2) == 0) || (!(((qa_ a b).f1.f1.f0.f3) == 0) || (!(((qa_ a b).f1.f1.f0.f4) == 0)))))) || ((!(((qa_ a b).f1.f1.f1.f0) == 0) || (!(((qa_ a b).f1.f1.f1.f1) == 0) || (!(((qa_ a b).f1.f1.f1.f2) == 0) || (!(((qa_ a b).f1.f1.f1.f3) == 0) || (!(((qa_ a b).f1.f1.f1.f4) == 0)))))) || (!(((qa_ a b).f1.f1.f2) == 0) || (!(((qa_ a b).f1.f1.f3) == 0) || (!(((qa_ a b).f1.f1.f4) == 0)))))))) || (!(((qa_ a b).f2) == 0))))=true
           ·rw [if_pos O] at H
            have aY:((false) || ((!(((qa_ a b).f1.f0) == 0) || (((!(((qa_ a b).f1.f1.f0.f0) == 0) || (!(((qa_ a b).f1.f1.f0.f1) == 0) || (!(((qa_ a b).f1.f1.f0.f2) == 0) || (!(((qa_ a b).f1.f1.f0.f3) == 0) || (!(((qa_ a b).f1.f1.f0.f4) == 0)))))) || ((!(((qa_ a b).f1.f1.f1.f0) == 0) || (!(((qa_ a b).f1.f1.f1.f1) == 0) || (!(((qa_ a b).f1.f1.f1.f2) == 0) || (!(((qa_ a b).f1.f1.f1.f3) == 0) || (!(((qa_ a b).f1.f1.f1.f4) == 0)))))) || (!(((qa_ a b).f1.f1.f2) == 0) || (!(((qa_ a b).f1.f1.f3) == 0) || (!(((qa_ a b).f1.f1.f4) == 0)))))))) || (!(((qa_ a b).f2) == 0))))=true:=O;rw [Bool.false_or] at aY;clear O;obtain rfl:=Option.some.inj H;(try have:=Xa.out);(try have:=Oa.out)
            go_wp2_with (first|((with_reducible refine gld_ 32 rfl ?_);refine qm_ ?_)|((with_reducible refine gld_ 3 rfl ?_);refine lc3_ ?_)|((with_reducible refine gld_ 4 rfl ?_);refine lc4_ ?_)|((with_reducible refine gst_ 52 rfl ?_);refine sa52_ ?_)|((with_reducible refine gld_ 52 rfl ?_);refine la52_ ?_))
            go_ret;exact ⟨er_,pB_ HB.out⟩
           ·rw [if_neg O] at H
            have aY:((false) || ((!(((qa_ a b).f1.f0) == 0) || (((!(((qa_ a b).f1.f1.f0.f0) == 0) || (!(((qa_ a b).f1.f1.f0.f1) == 0) || (!(((qa_ a b).f1.f1.f0.f2) == 0) || (!(((qa_ a b).f1.f1.f0.f3) == 0) || (!(((qa_ a b).f1.f1.f0.f4) == 0)))))) || ((!(((qa_ a b).f1.f1.f1.f0) == 0) || (!(((qa_ a b).f1.f1.f1.f1) == 0) || (!(((qa_ a b).f1.f1.f1.f2) == 0) || (!(((qa_ a b).f1.f1.f1.f3) == 0) || (!(((qa_ a b).f1.f1.f1.f4) == 0)))))) || (!(((qa_ a b).f1.f1.f2) == 0) || (!(((qa_ a b).f1.f1.f3) == 0) || (!(((qa_ a b).f1.f1.f4) == 0)))))))) || (!(((qa_ a b).f2) == 0))))=false:=(by simpa using O);rw [Bool.false_or] at aY
            clear O;have H':=D H;clear H;(try have:=Xa.out);(try have:=Oa.out)
            go_wp2_with (first|((with_reducible refine gld_ 32 rfl ?_);refine qm_ ?_)|((with_reducible refine gld_ 3 rfl ?_);refine lc3_ ?_)|((with_reducible refine gld_ 4 rfl ?_);refine lc4_ ?_)|((with_reducible refine gst_ 52 rfl ?_);refine sa52_ ?_)|((with_reducible refine gld_ 52 rfl ?_);refine la52_ ?_))
            go_roundg p
            case measure=>have:=m.out;have:=n.out;omega
            case rel=>exact ⟨(wrap64 (b+1)),Z35,H',⟨by have:=m.out;have:=n.out;omega⟩,⟨pk_ Ma.out⟩,⟨pB_ HB.out⟩⟩
         ·rw [if_neg J] at H
          exact absurd H (by simp)
        ·rw [if_neg G] at H
         exact absurd H (by simp)
       ·rw [if_neg q] at H
        have aP:decide (b < (a.length:Int))=false:=decide_eq_false q;clear q;obtain rfl:=Option.some.inj H
        go_wp2_with (first|((with_reducible refine gld_ 32 rfl ?_);refine qm_ ?_)|((with_reducible refine gld_ 3 rfl ?_);refine lc3_ ?_)|((with_reducible refine gld_ 4 rfl ?_);refine lc4_ ?_)|((with_reducible refine gst_ 52 rfl ?_);refine sa52_ ?_)|((with_reducible refine gld_ 52 rfl ?_);refine la52_ ?_))
        go_ret;exact ⟨er_,pB_ HB.out⟩
end Go.Proofs.Yteahaehbciccmaa.PFnPutDrop
