-- by a program of this session's, over the kit's words
import Derived.Test.YteahaehbciccmaaPZFnPutDrop
import Derived.Test.YteahaehbciccmaaPFnPutDropx0
import Derived.Test.YteahaehbciccmaaPFnPutDropx3
import Derived.Test.YteahaehbciccmaaPFnPutDropx4
import Derived.Test.YteahaehbciccmaaPFnPutDropx6
import Derived.Test.YteahaehbciccmaaPFnPutDropx7
namespace Go.Proofs.Yteahaehbciccmaa.PFnPutDrop
open Go.RowKit Go.Proofs.YteahaehbciccmaaW.PrintWords Go.Proofs.YteahaehbciccmaaW.PrintLast Go.Proofs.YteahaehbciccmaaW.PrintMore Go.Proofs.YteahaehbciccmaaV Go.Proofs.Yteahaehbciccmaa.ZFnPutDrop
open Go.Value renaming int → I, slice → Y
open Go.IntKind renaming i64 → L
open Aside0 renaming mk → D
open Option renaming bind_eq_some_iff → bs_
attribute [local go_sem] qad_ qab_ qak_ qaj_ q4_ q3_ qac_ qaa_
set_option linter.unusedVariables false
set_option linter.unusedSimpArgs false
set_option maxHeartbeats 8000000
set_option maxRecDepth 100000
def spec_TablePut.j0:Nat→Int→Bool→Int→List (S52)→Int→Int→Int→Int→Int→Int→Int→Int→Int→Int→Int→Int→Int→Int→Option (Int×(List (S52))×Int)
 | 0,_,_,_,_,_,_,_,_,_,_,_,_,_,_,_,_,_,_=>none
 | k+1,x2,u,d,c,e,g,h,i,j,l,m,n,o,p,q,r,s,t=>if u=true then (some (0,([]:List (S52)),1)) else ((spec_l11Copy.f d c).bind fun a=>((spec_l11Place.f k d c e g h i j l m n o p q r s t).bind fun b=>(if b ≥ 0 then (if 0≤b then (if b < (a.2.length:Int) then (some (a.1,(a.2.set (b:Int).toNat (⟨(qa_ a.2 b).f0,(⟨(qa_ a.2 b).f1.f0,(⟨(⟨(qa_ a.2 b).f1.f1.f0.f0,(qa_ a.2 b).f1.f1.f0.f1,(qa_ a.2 b).f1.f1.f0.f2,(qa_ a.2 b).f1.f1.f0.f3,(qa_ a.2 b).f1.f1.f0.f4⟩:S28),(⟨(qa_ a.2 b).f1.f1.f1.f0,(qa_ a.2 b).f1.f1.f1.f1,(qa_ a.2 b).f1.f1.f1.f2,(qa_ a.2 b).f1.f1.f1.f3,(qa_ a.2 b).f1.f1.f1.f4⟩:S28),(qa_ a.2 b).f1.f1.f2,(qa_ a.2 b).f1.f1.f3,(qa_ a.2 b).f1.f1.f4⟩:S30)⟩:S32),x2⟩:S52)),0)) else (none)) else (none)) else ((spec_l11Count.f k d c).bind fun v=>(if (wrap64 (4 * (wrap64 (v+1)))) > (wrap64 (3 * (c.length:Int))) then (some (0,([]:List (S52)),2)) else ((spec_l11Into.f k a.1 a.2 e g h i j l m n o p q r s t x2).bind fun w=>(some (a.1,w,0))))))))
def spec_TablePut.f (k:Nat) (a:Int) (b:List (S52)) (c d e g h i j l m n o p q r a2:Int):Option (Int×(List (S52))×Int):=(spec_TableOk.f k a b).bind fun s=>(if s=true then ((spec_FlowKeyOk.f c d e g h i j l m n o p q r).bind fun t=>(if t=true then (if a2 < 0 then (spec_TablePut.j0 k a2 true a b c d e g h i j l m n o p q r) else (spec_TablePut.j0 k a2 (decide (a2 > 1000000000000)) a b c d e g h i j l m n o p q r)) else (spec_TablePut.j0 k a2 true a b c d e g h i j l m n o p q r))) else (spec_TablePut.j0 k a2 true a b c d e g h i j l m n o p q r))
def spec_TablePut.T8:Bool×List (List Nat×List Nat):=(true,[([],[]),([0],[0]),([1],[1]),([2],[2]),([],[]),([4],[4]),([5],[5]),([6],[6]),([3,7],[3,7])])
def spec_TablePut.B8:List Nat:=[0,1,3,7,0,16,48,112,255]
theorem spec_TablePut.tab8:rtab .any (opsOf Try.f7 8)=spec_TablePut.T8:=by kernel_rfl
theorem spec_TablePut.bits8:q8_ spec_TablePut.T8.2 spec_TablePut.B8=true:=by kernel_rfl
theorem spec_TablePut.calls (k:Nat) (b:Int) (J:Option Addr) (M:Nat) (a:List (S52)) (c d i l q r s u y z A B E G a2 X:Int) (Z:List (S52)) (r3:Int) (w:World) (ar:Kd.C k52 w J a.length a) (au:a.length≤M) (h:spec_TablePut.f k b a c d i l q r s u y z A B E G a2=some (X,Z,r3)) :
  Calls Try.prog 7 #[.agg #[I L b,Y J a.length M],.agg #[I L c,I L d,I L i,I L l,I L q,I L r,I L s,I L u,I L y,I L z,I L A,I L B,I L E,I L G],I L a2] w fun e w'=>∃ av:Value,e=.returned (.tuple #[.agg #[I L X,av],I L r3])∧Kd.R k52 52 w' w.heap.size (fun _=>True) av Z∧Below w.heap.size w w':=by
 have hu26:=Try.underlying26
 have hu32:=Try.underlying32
 have O:=D ar
 have P:=D au
 clear ar au
 have HB:=D (Below.refl w.heap.size w)
 have H:((spec_TableOk.f k b a).bind fun Oe=>(if Oe=true then ((spec_FlowKeyOk.f c d i l q r s u y z A B E G).bind fun Ue=>(if Ue=true then (if a2 < 0 then (spec_TablePut.j0 k a2 true b a c d i l q r s u y z A B E G) else (spec_TablePut.j0 k a2 (decide (a2 > 1000000000000)) b a c d i l q r s u y z A B E G)) else (spec_TablePut.j0 k a2 true b a c d i l q r s u y z A B E G))) else (spec_TablePut.j0 k a2 true b a c d i l q r s u y z A B E G)))=some (X,Z,r3):=h
 clear h
 have aj:=D H
 clear H
 go_enter Try.func7,Try.ntmps7
 go_upto_region 1 with (first|((with_reducible refine gst_ 3 rfl ?_);refine sc3_ ?_)|((with_reducible refine gst_ 32 rfl ?_);refine sa32_ ?_)|((with_reducible refine gld_ 32 rfl ?_);refine la32_ ?_)|((with_reducible refine qg_ (N:=3) rfl ?_);refine bx_ (N:=3) (cs:=#[I L b,Y J a.length M]) (t:=26) ?_;intro Xb hg w5 hbox hb;have n_:=an_ (qc_ (pB_ HB.out) hb)<|an_ (hbox)<|an_ (bg_ hg (pB_ HB.out):w.heap.size≤Xb)<|D (bg_ hg (pB_ HB.out):w.heap.size≤Xb);clear HB;obtain ⟨HB,Oa,Mz,Oz⟩:=n_;clear hb hbox hg)|((with_reducible refine qg_ (N:=4) rfl ?_);refine bx_ (N:=4) (cs:=#[I L c,I L d,I L i,I L l,I L q,I L r,I L s,I L u,I L y,I L z,I L A,I L B,I L E,I L G]) (t:=32) ?_;intro Xa hg w6 hbox hb;have n_:=an_ (qb_ (pk_ Oa.out) hb)<|an_ (qc_ (pB_ HB.out) hb)<|an_ (hbox)<|an_ (bg_ hg (pB_ HB.out):w.heap.size≤Xa)<|an_ (bg_ hg (pB_ HB.out):w.heap.size≤Xa)<|an_ (nl_ hg (pk_ Oa.out):Xb≠Xa)<|D (by rw [hg];exact Nat.ne_of_gt (qz_ (pk_ Oa.out)):Xa≠Xb);clear Oa HB;obtain ⟨Oa,HB,Ja,Uz,Xz,Jd,Md⟩:=n_;clear hb hbox hg)|((with_reducible refine qg_ (N:=6) rfl ?_);refine bx_ (N:=6) (cs:=#[I L 0,Y none 0 0]) (t:=26) ?_;intro Mb hg w7 hbox hb;have n_:=an_ (qb_ (pk_ Oa.out) hb)<|an_ (qb_ (pk_ Ja.out) hb)<|an_ (qc_ (pB_ HB.out) hb)<|an_ (hbox)<|an_ (bg_ hg (pB_ HB.out):w.heap.size≤Mb)<|an_ (bg_ hg (pB_ HB.out):w.heap.size≤Mb)<|an_ (nl_ hg (pk_ Oa.out):Xb≠Mb)<|an_ (ng_ hg (pk_ Oa.out):Mb≠Xb)<|an_ (nl_ hg (pk_ Ja.out):Xa≠Mb)<|D (by rw [hg];exact Nat.ne_of_gt (qz_ (pk_ Ja.out)):Mb≠Xa);clear Oa Ja HB;obtain ⟨Oa,Ja,HB,Ua,Ja1,Ka1,Kc,Mc,Oc,Uc⟩:=n_;clear hb hbox hg))
 (try simp only [Act.put,List.setIfInBounds_toArray,List.set_cons_zero,List.set_cons_succ])
 go_cut [25] (fun aP wc=>∃ (kq:Nat) (Je:Bool),aP=.bool Je∧Aside0 (spec_TablePut.j0 kq a2 Je b a c d i l q r s u y z A B E G=some (X,Z,r3))∧Aside0 (kq≤k)∧Aside0 (wc.heap[Xb]?=some (.cells #[I L b,(Y J a.length M)] 26 (0,0)))∧Aside0 (wc.heap[Xa]?=some (.cells #[I L c,I L d,I L i,I L l,I L q,I L r,I L s,I L u,I L y,I L z,I L A,I L B,I L E,I L G] 32 (0,0)))∧Aside0 (wc.heap[Mb]?=some (.cells #[I L 0,(Y none 0 0)] 26 (0,0)))∧Aside0 (Below w.heap.size w wc))
 case first =>
  have H:=aj.out;clear aj;obtain ⟨Oe,aw,H⟩:=bs_.mp H;(try dsimp only at H);have A8:=D aw;clear aw
  by_cases c9:Oe=true
  ·subst c9
   rw [if_pos rfl] at H;obtain ⟨Ue,ax,H⟩:=bs_.mp H;(try dsimp only at H);have ak:=D ax;clear ax
   by_cases ab:Ue=true
   ·subst ab
    rw [if_pos rfl] at H
    by_cases T:a2 < 0
    ·rw [if_pos T] at H
     have ae:decide (a2 < 0)=true:=decide_eq_true T;clear T;refine rw_ ae ?_;have H':=D H;clear H;(try have:=Jd.out);(try have:=Md.out);(try have:=Kc.out);(try have:=Mc.out);have Mf:=ql_ Oa.out
     go_wp2_with (first|((with_reducible refine gst_ 3 rfl ?_);refine sc3_ ?_)|((with_reducible refine gst_ 32 rfl ?_);refine sa32_ ?_)|((with_reducible refine gld_ 32 rfl ?_);refine la32_ ?_)|((with_reducible refine qd_ (f:=17) rfl ?_);refine qk_ (some 11) rfl rfl Try.func17 (by kernel_rfl) rfl #[.agg #[I L b,Y J a.length M]] rfl Z12 ?_;(with_reducible refine (spec_TableOk.calls k b _ _ a true _ ?side1 ?side2 A8.out).mono ?_);(case side1=>exact pC_ (Kd.C_below O.out HB.out));(case side2=>exact P.out);rintro e a4 ⟨rfl,hb⟩;refine ⟨_,rfl,?_⟩;have n_:=an_ (qb_ (pk_ Oa.out) hb)<|an_ (qb_ (pk_ Ja.out) hb)<|an_ (qb_ (pk_ Ua.out) hb)<|D (qc_ (pB_ HB.out) hb);clear Oa Ja Ua HB;obtain ⟨Oa,Ja,Ua,HB⟩:=n_;(try clear hb);(try have:=Oc.out);(try have:=Uc.out))|(go_at_call 18;(with_reducible refine (spec_FlowKeyOk.calls c d i l q r s u y z A B E G true _ ak.out).mono ?_);rintro e a5 ⟨rfl,hb⟩;have n_:=an_ (qb_ (pk_ Oa.out) hb)<|an_ (qb_ (pk_ Ja.out) hb)<|an_ (qb_ (pk_ Ua.out) hb)<|D (qc_ (pB_ HB.out) hb);clear Oa Ja Ua HB;obtain ⟨Oa,Ja,Ua,HB⟩:=n_;(try clear hb)))
     go_meet
     case rel=>exact ⟨_,(true),Z35,H',⟨by first | omega | exact Nat.le_refl _⟩,⟨pk_ Oa.out⟩,⟨pk_ Ja.out⟩,⟨pk_ Ua.out⟩,⟨pB_ HB.out⟩⟩
    ·rw [if_neg T] at H
     have ae:decide (a2 < 0)=false:=decide_eq_false T;clear T;refine rw_ ae ?_;have H':=D H;clear H;(try have:=Jd.out);(try have:=Md.out);(try have:=Kc.out);(try have:=Mc.out);have Uk:=ql_ Oa.out
     go_wp2_with (first|((with_reducible refine gst_ 3 rfl ?_);refine sc3_ ?_)|((with_reducible refine gst_ 32 rfl ?_);refine sa32_ ?_)|((with_reducible refine gld_ 32 rfl ?_);refine la32_ ?_)|((with_reducible refine qd_ (f:=17) rfl ?_);refine qk_ (some 11) rfl rfl Try.func17 (by kernel_rfl) rfl #[.agg #[I L b,Y J a.length M]] rfl Z12 ?_;(with_reducible refine (spec_TableOk.calls k b _ _ a true _ ?side1 ?side2 A8.out).mono ?_);(case side1=>exact pC_ (Kd.C_below O.out HB.out));(case side2=>exact P.out);rintro e a6 ⟨rfl,hb⟩;refine ⟨_,rfl,?_⟩;have n_:=an_ (qb_ (pk_ Oa.out) hb)<|an_ (qb_ (pk_ Ja.out) hb)<|an_ (qb_ (pk_ Ua.out) hb)<|D (qc_ (pB_ HB.out) hb);clear Oa Ja Ua HB;obtain ⟨Oa,Ja,Ua,HB⟩:=n_;(try clear hb);(try have:=Oc.out);(try have:=Uc.out))|(go_at_call 18;(with_reducible refine (spec_FlowKeyOk.calls c d i l q r s u y z A B E G true _ ak.out).mono ?_);rintro e a7 ⟨rfl,hb⟩;have n_:=an_ (qb_ (pk_ Oa.out) hb)<|an_ (qb_ (pk_ Ja.out) hb)<|an_ (qb_ (pk_ Ua.out) hb)<|D (qc_ (pB_ HB.out) hb);clear Oa Ja Ua HB;obtain ⟨Oa,Ja,Ua,HB⟩:=n_;(try clear hb)))
     go_meet
     case rel=>exact ⟨_,(decide (a2 > 1000000000000)),Z35,H',⟨by first | omega | exact Nat.le_refl _⟩,⟨pk_ Oa.out⟩,⟨pk_ Ja.out⟩,⟨pk_ Ua.out⟩,⟨pB_ HB.out⟩⟩
   ·replace ab:=Bool.eq_false_iff.mpr ab
    subst ab;rw [if_neg (show ¬ (false=true) by decide)] at H;have H':=D H;clear H;(try have:=Jd.out);(try have:=Md.out);(try have:=Kc.out);(try have:=Mc.out);have Jr:=ql_ Oa.out
    go_wp2_with (first|((with_reducible refine gst_ 3 rfl ?_);refine sc3_ ?_)|((with_reducible refine gst_ 32 rfl ?_);refine sa32_ ?_)|((with_reducible refine gld_ 32 rfl ?_);refine la32_ ?_)|((with_reducible refine qd_ (f:=17) rfl ?_);refine qk_ (some 11) rfl rfl Try.func17 (by kernel_rfl) rfl #[.agg #[I L b,Y J a.length M]] rfl Z12 ?_;(with_reducible refine (spec_TableOk.calls k b _ _ a true _ ?side1 ?side2 A8.out).mono ?_);(case side1=>exact pC_ (Kd.C_below O.out HB.out));(case side2=>exact P.out);rintro e a8 ⟨rfl,hb⟩;refine ⟨_,rfl,?_⟩;have n_:=an_ (qb_ (pk_ Oa.out) hb)<|an_ (qb_ (pk_ Ja.out) hb)<|an_ (qb_ (pk_ Ua.out) hb)<|D (qc_ (pB_ HB.out) hb);clear Oa Ja Ua HB;obtain ⟨Oa,Ja,Ua,HB⟩:=n_;(try clear hb);(try have:=Oc.out);(try have:=Uc.out))|(go_at_call 18;(with_reducible refine (spec_FlowKeyOk.calls c d i l q r s u y z A B E G false _ ak.out).mono ?_);rintro e a9 ⟨rfl,hb⟩;have n_:=an_ (qb_ (pk_ Oa.out) hb)<|an_ (qb_ (pk_ Ja.out) hb)<|an_ (qb_ (pk_ Ua.out) hb)<|D (qc_ (pB_ HB.out) hb);clear Oa Ja Ua HB;obtain ⟨Oa,Ja,Ua,HB⟩:=n_;(try clear hb)))
    go_meet
    case rel=>exact ⟨_,(true),Z35,H',⟨by first | omega | exact Nat.le_refl _⟩,⟨pk_ Oa.out⟩,⟨pk_ Ja.out⟩,⟨pk_ Ua.out⟩,⟨pB_ HB.out⟩⟩
  ·replace c9:=Bool.eq_false_iff.mpr c9
   subst c9;rw [if_neg (show ¬ (false=true) by decide)] at H;have H':=D H;clear H;(try have:=Jd.out);(try have:=Md.out);(try have:=Kc.out);(try have:=Mc.out);have My:=ql_ Oa.out
   go_wp2_with (first|((with_reducible refine gst_ 3 rfl ?_);refine sc3_ ?_)|((with_reducible refine gst_ 32 rfl ?_);refine sa32_ ?_)|((with_reducible refine gld_ 32 rfl ?_);refine la32_ ?_)|((with_reducible refine qd_ (f:=17) rfl ?_);refine qk_ (some 11) rfl rfl Try.func17 (by kernel_rfl) rfl #[.agg #[I L b,Y J a.length M]] rfl Z12 ?_;(with_reducible refine (spec_TableOk.calls k b _ _ a false _ ?side1 ?side2 A8.out).mono ?_);(case side1=>exact pC_ (Kd.C_below O.out HB.out));(case side2=>exact P.out);rintro e ba ⟨rfl,hb⟩;refine ⟨_,rfl,?_⟩;have n_:=an_ (qb_ (pk_ Oa.out) hb)<|an_ (qb_ (pk_ Ja.out) hb)<|an_ (qb_ (pk_ Ua.out) hb)<|D (qc_ (pB_ HB.out) hb);clear Oa Ja Ua HB;obtain ⟨Oa,Ja,Ua,HB⟩:=n_;(try clear hb)))
   go_meet
   case rel=>exact ⟨_,(true),Z35,H',⟨by first | omega | exact Nat.le_refl _⟩,⟨pk_ Oa.out⟩,⟨pk_ Ja.out⟩,⟨pk_ Ua.out⟩,⟨pB_ HB.out⟩⟩
 case rest =>
  clear aj
  (try clear c1);(try clear c2);(try clear p2);(try clear c3);(try clear c7);(try clear c9);(try clear ab);(try clear T);(try clear ae);(try clear bd);(try clear be);(try clear bf);(try clear bg);(try clear bh);(try clear bi);(try clear bj);(try clear bk);(try clear bl);(try clear bm);(try clear bn);(try clear Mf);skip;(try clear Uk);skip;(try clear Jr);skip;(try clear My)
  obtain ⟨kq,Je,rfl,HA,bo,Oa,Ja,Ua,HB⟩:=hcut
  cases kq with
  | zero=>exact absurd HA.out (by simp [spec_TablePut.j0])
  | succ kj3 =>
   have H:=HA.out;clear HA;simp only [spec_TablePut.j0] at H
   by_cases af:Je=true
   ·subst af
    rw [if_pos rfl] at H;simp only [Option.some.injEq,Prod.mk.injEq] at H;obtain ⟨rfl,rfl,rfl⟩:=H;(try have:=Mc.out);(try have:=Kc.out);(try have:=Uc.out);(try have:=Oc.out);have Ma1:=ql_ Ua.out
    go_wp2_with (first|((with_reducible refine gst_ 3 rfl ?_);refine sc3_ ?_)|((with_reducible refine gst_ 32 rfl ?_);refine sa32_ ?_)|((with_reducible refine gld_ 32 rfl ?_);refine la32_ ?_))
    refine bodyPost_ret (qau_ rfl _ _ Mb 26 #[I L 0,Y none 0 0] (0,0) _ rfl Z10 Try.underlying26 rfl (by kernel_rfl)) rfl ?_;exact ⟨_,er_,by first|exact Kd.R_nil _ _ _ _ _|exact Kd.N_nil _ _ _ _ _|exact Kd.V_nil _ _ _ _ _|exact Kd.Q_nil _ _ _ _ _|exact Kd.S_nil _ _ _ _ _,pB_ HB.out⟩
   ·replace af:=Bool.eq_false_iff.mpr af
    subst af;rw [if_neg (show ¬ (false=true) by decide)] at H;obtain ⟨⟨Ob,Ma⟩,ay,H⟩:=bs_.mp H;(try dsimp only at H);have aQ:=D ay;clear ay;obtain ⟨Ka,az,H⟩:=bs_.mp H;(try dsimp only at H);have aR:=D az;clear az;have aA:=D H;clear H;(try have:=Jd.out);(try have:=Md.out);(try have:=Kc.out);(try have:=Mc.out);have Jb1:=ql_ Oa.out
    go_upto_if 33 with (first|((with_reducible refine gst_ 3 rfl ?_);refine sc3_ ?_)|((with_reducible refine gst_ 32 rfl ?_);refine sa32_ ?_)|((with_reducible refine gld_ 32 rfl ?_);refine la32_ ?_)|((with_reducible refine qd_ (f:=20) rfl ?_);refine qk_ (some 28) rfl rfl Try.func20 (by kernel_rfl) rfl #[.agg #[I L b,Y J a.length M]] rfl Z12 ?_;(with_reducible refine (spec_l11Copy.calls b _ _ a Ob Ma _ ?side1 ?side2 aQ.out).mono ?_);(case side1=>exact pC_ (Kd.C_below O.out HB.out));(case side2=>exact P.out);rintro e bp ⟨Ub1,rfl,aB,hb⟩;refine ⟨_,rfl,?_⟩;have n_:=an_ (Kd.R_lower aB (qh_ (pB_ HB.out)))<|an_ (qb_ (pk_ Oa.out) hb)<|an_ (qb_ (pk_ Ja.out) hb)<|an_ (qb_ (pk_ Ua.out) hb)<|D (qc_ (pB_ HB.out) hb);clear Oa Ja Ua HB;obtain ⟨Jb,Oa,Ja,Ua,HB⟩:=n_;(try clear hb);(try clear aB))|((with_reducible refine qg_ (N:=8) rfl ?_);refine bx_ (N:=8) (cs:=#[I L 0,Y none 0 0]) (t:=26) ?_;intro Ub hg bq hbox hb;have n_:=an_ (Kd.R_below (pR_ Jb.out) hb)<|an_ (qb_ (pk_ Oa.out) hb)<|an_ (qb_ (pk_ Ja.out) hb)<|an_ (qb_ (pk_ Ua.out) hb)<|an_ (qc_ (pB_ HB.out) hb)<|an_ (hbox)<|an_ (bg_ hg (pB_ HB.out):w.heap.size≤Ub)<|an_ (bg_ hg (pB_ HB.out):w.heap.size≤Ub)<|an_ (nl_ hg (pk_ Oa.out):Xb≠Ub)<|an_ (ng_ hg (pk_ Oa.out):Ub≠Xb)<|an_ (nl_ hg (pk_ Ja.out):Xa≠Ub)<|an_ (ng_ hg (pk_ Ja.out):Ub≠Xa)<|an_ (nl_ hg (pk_ Ua.out):Mb≠Ub)<|D (by rw [hg];exact Nat.ne_of_gt (qz_ (pk_ Ua.out)):Ub≠Mb);clear Jb Oa Ja Ua HB;obtain ⟨Jb,Oa,Ja,Ua,HB,Kb,Xb1,Jc1,Ud,Xe,Xd,Jf,Od,Ke⟩:=n_;clear hb hbox hg;(try have:=Xe.out);(try have:=Ud.out);(try have:=Jf.out);(try have:=Xd.out);(try have:=Ke.out);(try have:=Od.out);have Kc1:=ql_ Kb.out;obtain ⟨Xc,Jc,aS⟩:=Kd.R_slice Jb.out;subst aS;have Xc1:=ql_ Oa.out;(try have:=Oc.out);(try have:=Uc.out))|((with_reducible refine qd_ (f:=19) rfl ?_);refine qk_ (some 31) rfl rfl Try.func19 (by kernel_rfl) rfl #[.agg #[I L b,Y J a.length M],.agg #[I L c,I L d,I L i,I L l,I L q,I L r,I L s,I L u,I L y,I L z,I L A,I L B,I L E,I L G]] rfl Z12 ?_;(with_reducible refine (spec_l11Place.calls kj3 b _ _ a c d i l q r s u y z A B E G Ka _ ?side1 ?side2 aR.out).mono ?_);(case side1=>exact Kd.C_below O.out (pB_ HB.out));(case side2=>exact P.out);rintro e ag ⟨rfl,hb⟩;refine ⟨_,rfl,?_⟩;have n_:=an_ (Kd.R_below (rM_ (Kd.R_types Jb.out Kb.out (by decide)) (fun _ h_=>h_.1)) hb)<|an_ (qb_ (g:=Xb) (o:=.cells #[I L b,Y J a.length M] 26 (0,0)) (by exact pP_ Oa.out) hb)<|an_ (qb_ (g:=Xa) (o:=.cells #[I L c,I L d,I L i,I L l,I L q,I L r,I L s,I L u,I L y,I L z,I L A,I L B,I L E,I L G] 32 (0,0)) (by exact pP_ Ja.out) hb)<|an_ (qb_ (g:=Mb) (o:=.cells #[I L 0,Y none 0 0] 26 (0,0)) (by exact pP_ Ua.out) hb)<|an_ (qb_ (g:=Ub) (o:=.cells #[I L Ob,Y Xc Ma.length Jc] 26 (0,0)) (by exact pP_ Kb.out) hb)<|D (qc_ (pB_ HB.out) hb);clear Jb Oa Ja Ua Kb HB;obtain ⟨Jb,Oa,Ja,Ua,Kb,HB⟩:=n_;(try clear hb)))
    have H:=aA.out;clear aA
    by_cases U:Ka ≥ 0
    ·rw [if_pos U] at H
     have al:decide (0≤Ka)=true:=decide_eq_true U;clear U;refine rw_ al ?_
     by_cases ah:0≤Ka
     ·rw [if_pos ah] at H
      have bs:decide (0≤Ka)=true:=decide_eq_true ah;clear ah
      by_cases ai:Ka < (Ma.length:Int)
      ·rw [if_pos ai] at H
       have bu:decide (Ka < (Ma.length:Int))=true:=decide_eq_true ai;clear ai;obtain ⟨aC,ac⟩:∃ y_:List (S52),y_=(Ma.set (Ka:Int).toNat (⟨(qa_ Ma Ka).f0,(⟨(qa_ Ma Ka).f1.f0,(⟨(⟨(qa_ Ma Ka).f1.f1.f0.f0,(qa_ Ma Ka).f1.f1.f0.f1,(qa_ Ma Ka).f1.f1.f0.f2,(qa_ Ma Ka).f1.f1.f0.f3,(qa_ Ma Ka).f1.f1.f0.f4⟩:S28),(⟨(qa_ Ma Ka).f1.f1.f1.f0,(qa_ Ma Ka).f1.f1.f1.f1,(qa_ Ma Ka).f1.f1.f1.f2,(qa_ Ma Ka).f1.f1.f1.f3,(qa_ Ma Ka).f1.f1.f1.f4⟩:S28),(qa_ Ma Ka).f1.f1.f2,(qa_ Ma Ka).f1.f1.f3,(qa_ Ma Ka).f1.f1.f4⟩:S30)⟩:S32),a2⟩:S52)):=⟨_,rfl⟩
       replace H:(some (Ob,aC,0))=some (X,Z,r3):=by first|(rw [ac];with_reducible exact H)|(have H2_:=(Option.bind_some _ _).symm.trans H;rw [ac];with_reducible exact H2_)|(have H2_:=(Option.bind_some _ _).symm.trans H;with_reducible exact H2_)|with_reducible exact H|(rw [ac];exact H)|exact H
       have aT:=D ac;clear ac;simp only [Option.some.injEq,Prod.mk.injEq] at H;obtain ⟨rfl,rfl,rfl⟩:=H;(try have:=Xe.out);(try have:=Ud.out);(try have:=Jf.out);(try have:=Xd.out);(try have:=Ke.out);(try have:=Od.out);have Ki1:=ql_ Kb.out;have am:0≤(Ka:Int):=od_ Z22;have an:(Ka:Int) < ((Ma.length:Int):Int):=od_ Z22;obtain ⟨go62,Xi1,aD,Kf,gl62,cl62,HG62⟩:=Kd.R_form Jb.out (by omega);(first|cases aD|(injection aD with ea_ en_ ec_;(first|subst ea_|(injection ea_ with ea_;subst ea_));subst ec_;clear en_));have aU:=D Kf;have GG62:=D HG62;clear Kf gl62 HG62;obtain ⟨ce62,aV,aE,aF,aG⟩:=Kd.R_elem Jb.out z52 (Ka:Int) am an;obtain rfl:=q7_ aE;obtain ⟨bv,bw,bx,bA,bB,bC,bD,bE,bF,bG,bH,bI,bJ,bK,bL,bM,bN,bO,bP,bQ,bR,bS,bT,bU,bV,bW,bX,bY,bZ,b0,b1,b2⟩:=es52_ (m:=(Ka:Int).toNat * 16) (x:=(qa_ Ma Ka)) aF aG;clear aV aF aG aE;replace am:=eq_true am;replace an:=eq_true an;have aH:=D (show Kd.R k52 52 ag w.heap.size (fun _=>True) (Y (some ⟨go62,0,none⟩) Ma.length Jc) Ma from (pR_ Jb.out));obtain ⟨ce67,aI,aJ,ao,aK⟩:=Kd.R_elem aH.out z52 (Ka:Int) (od_ Z22) (by have h_:(Ka:Int) < ((Ma.length:Int):Int):=od_ Z22;first|exact h_|(have e_:=(Kd.R_reads' Jb.out).1;omega)|simpa using h_);obtain rfl:=q7_ aJ;have HP67:=Kd.R_seg aH.out (Ka:Int) (od_ Z22) (by have h_:(Ka:Int) < ((Ma.length:Int):Int):=od_ Z22;first|exact h_|(have e_:=(Kd.R_reads' Jb.out).1;omega)|simpa using h_) (seg:=[I L a2]) (j:=15) aI ao (show 16≤16 from by decide) (x':=(⟨(qa_ Ma Ka).f0,(⟨(qa_ Ma Ka).f1.f0,(⟨(⟨(qa_ Ma Ka).f1.f1.f0.f0,(qa_ Ma Ka).f1.f1.f0.f1,(qa_ Ma Ka).f1.f1.f0.f2,(qa_ Ma Ka).f1.f1.f0.f3,(qa_ Ma Ka).f1.f1.f0.f4⟩:S28),(⟨(qa_ Ma Ka).f1.f1.f1.f0,(qa_ Ma Ka).f1.f1.f1.f1,(qa_ Ma Ka).f1.f1.f1.f2,(qa_ Ma Ka).f1.f1.f1.f3,(qa_ Ma Ka).f1.f1.f1.f4⟩:S28),(qa_ Ma Ka).f1.f1.f2,(qa_ Ma Ka).f1.f1.f3,(qa_ Ma Ka).f1.f1.f4⟩:S30)⟩:S32),a2⟩:S52)) (k52_mkM _ _ _ (⟨(qa_ Ma Ka).f0,(⟨(qa_ Ma Ka).f1.f0,(⟨(⟨(qa_ Ma Ka).f1.f1.f0.f0,(qa_ Ma Ka).f1.f1.f0.f1,(qa_ Ma Ka).f1.f1.f0.f2,(qa_ Ma Ka).f1.f1.f0.f3,(qa_ Ma Ka).f1.f1.f0.f4⟩:S28),(⟨(qa_ Ma Ka).f1.f1.f1.f0,(qa_ Ma Ka).f1.f1.f1.f1,(qa_ Ma Ka).f1.f1.f1.f2,(qa_ Ma Ka).f1.f1.f1.f3,(qa_ Ma Ka).f1.f1.f1.f4⟩:S28),(qa_ Ma Ka).f1.f1.f2,(qa_ Ma Ka).f1.f1.f3,(qa_ Ma Ka).f1.f1.f4⟩:S30)⟩:S32),a2⟩:S52) ) (fun _ hk=>hk);have aW:=ao 15 _ rfl;(try simp only [show (k52).sz=16 from rfl,Nat.mul_one,Nat.add_zero] at aW);have aX:=aK 15;(try simp only [show (k52).sz=16 from rfl,Nat.mul_one,Nat.add_zero] at aX);clear aI ao aK aJ
       go_wp2_with (first|((with_reducible refine gate_store (t:=3) (p:=39) rfl ?_);refine store_event (t:=3) (p:=39) (v:=?vo_w68) (w1:=(ag.setCell ⟨go62,(Ka:Int).toNat * 16+15,none⟩ (I L a2))) ?hg ?ho ?hn ?hr ?_;(case ho=>rfl);(case hg=>rfl);(case hn=>rfl);(case hr=>first|(go_simp;done)|(go_simp;rfl));intro ap hw;have hg:ag.grownBy ap (some go62):=(by rw [hw];exact HP67.2);have hp_:Kd.R k52 52 ap w.heap.size (fun _=>True) (Y (some ⟨go62,0,none⟩) Ma.length Jc) aC:=(by rw [hw,aT.out];exact HP67.1);clear HP67;have n_:=an_ (qv_ (pk_ Oa.out) hg (Kd.R_ne Jb.out Oa.out (by decide)))<|an_ (qv_ (pk_ Ja.out) hg (Kd.R_ne Jb.out Ja.out (by decide)))<|an_ (qv_ (pk_ Ua.out) hg (Kd.R_ne Jb.out Ua.out (by decide)))<|an_ (hp_)<|an_ (qv_ (pk_ Kb.out) hg (Kd.R_ne Jb.out Kb.out (by decide)))<|D (by rw [hw];exact qe_ (HB.out) aU.out:Below w.heap.size w ap);clear Oa Ja Ua Jb Kb HB;obtain ⟨Oa,Ja,Ua,Jb,Kb,HB⟩:=n_;clear hg hw hp_;have Jj1:=ql_ Kb.out;(try have:=Mc.out);(try have:=Kc.out);(try have:=Uc.out);(try have:=Oc.out);have Uj1:=ql_ Ua.out)|((with_reducible refine gst_ 3 rfl ?_);refine sc3_ ?_)|((with_reducible refine gst_ 32 rfl ?_);refine sa32_ ?_)|((with_reducible refine gld_ 32 rfl ?_);refine la32_ ?_))
       refine bodyPost_ret (qau_ rfl _ _ Mb 26 #[I L Ob,Y (some ⟨go62,0,none⟩) Ma.length Jc] (0,0) _ rfl Z7 Try.underlying26 rfl (by kernel_rfl)) rfl ?_;exact ⟨_,er_,by (with_reducible repeat (first|apply Kd.R_alloc|apply Kd.R_drewN|apply Kd.R_drew));exact Kd.R_mono (fr_ (fr_ (Kd.R_types Jb.out Ua.out (by decide)) 0 (I L Ob)) 1 (Y (some ⟨go62,0,none⟩) Ma.length Jc)) (fun _ hk=>trivial),pB_ HB.out⟩
      ·rw [if_neg ai] at H
       exact absurd H (by simp)
     ·rw [if_neg ah] at H
      exact absurd H (by simp)
    ·rw [if_neg U] at H
     have al:decide (0≤Ka)=false:=decide_eq_false U;clear U;refine rw_ al ?_;obtain ⟨Me,aL,H⟩:=bs_.mp H;(try dsimp only at H);have aY:=D aL;clear aL;have aM:=D H;clear H
     try go_wp2_with (first|((with_reducible refine gst_ 3 rfl ?_);refine sc3_ ?_)|((with_reducible refine gst_ 32 rfl ?_);refine sa32_ ?_)|((with_reducible refine gld_ 32 rfl ?_);refine la32_ ?_))
     have n_:=an_ (Kd.R_drew Jb.out)<|an_ (qt_ Oa.out)<|an_ (qt_ Ja.out)<|an_ (qt_ Ua.out)<|an_ (qt_ Kb.out)<|D (qr_ HB.out)
     clear Jb Oa Ja Ua Kb HB;obtain ⟨Jb,Oa,Ja,Ua,Kb,HB⟩:=n_;refine qaw_ (n:=9) (S:=fun w'=>w'.cell? ⟨Xb,0,none⟩=some (I L b)∧w'.cell? ⟨Xb,1,none⟩=some (Y J a.length M)) (ds:=[]) (bz 9 0) (by kernel_rfl) rfl (by kernel_rfl) (be2_ Oa.out) (fun hHeld=>?_);refine q6_ spec_TablePut.tab8 spec_TablePut.bits8 (fun HT_ HW_=>?_);generalize ag.drew=b3 at Jb Oa Ja Ua Kb HB hHeld ⊢;refine pb_ 4 ?_;refine tb_ 0 rfl rfl hHeld Z23 ?_;refine tb_ 5 rfl rfl hHeld Z23 ?_;refine pb_ 6 ?_;refine pb_ 7 ?_;refine oa_ 1 42 9 243 HT_ (fun K hK=>?_);refine goes_ Try.func21 (by kernel_rfl) rfl #[.agg #[I L b,Y J a.length M]] (by rfl) rfl rfl Z12 ?_;with_reducible refine (spec_l11Count.calls kj3 b _ _ a Me _ ?side1 ?side2 aY.out).mono ?_
     (case side1=>exact pC_ (Kd.C_below O.out HB.out));(case side2=>exact P.out);rintro e b4 ⟨rfl,hb⟩;refine ⟨_,rfl,?_⟩
     have n_:=an_ (Kd.R_below (pR_ Jb.out) hb)<|an_ (qb_ (pk_ Oa.out) hb)<|an_ (qb_ (pk_ Ja.out) hb)<|an_ (qb_ (pk_ Ua.out) hb)<|an_ (qb_ (pk_ Kb.out) hb)<|D (qc_ (pB_ HB.out) hb)
     clear Jb Oa Ja Ua Kb HB;obtain ⟨Jb,Oa,Ja,Ua,Kb,HB⟩:=n_;refine hK.out _ _ (be2_ Oa.out) (fun hHeld=>?_);clear hK K;refine nx_ (N:=some 42) ?_;refine pb_ 2 ?_;refine pb_ 3 ?_;refine pb_ 8 ?_;refine done_ (qaq_ HT_.out (by kernel_rfl)) ?_
     go_upto_if 49 with (first|((with_reducible refine gst_ 3 rfl ?_);refine sc3_ ?_)|((with_reducible refine gst_ 32 rfl ?_);refine sa32_ ?_)|((with_reducible refine gld_ 32 rfl ?_);refine la32_ ?_))
     have H:=aM.out;clear aM
     by_cases W:(wrap64 (4 * (wrap64 (Me+1)))) > (wrap64 (3 * (a.length:Int)))
     ·rw [if_pos W] at H
      have aq:decide ((wrap64 (3 * (a.length:Int))) < (wrap64 (4 * (wrap64 (Me+1)))))=true:=decide_eq_true W;clear W;refine rw_ aq ?_;simp only [Option.some.injEq,Prod.mk.injEq] at H;obtain ⟨rfl,rfl,rfl⟩:=H;(try have:=Mc.out);(try have:=Kc.out);(try have:=Uc.out);(try have:=Oc.out);(try have:=Od.out);(try have:=Ke.out);have Mk1:=ql_ Ua.out
      go_wp2_with (first|((with_reducible refine gst_ 3 rfl ?_);refine sc3_ ?_)|((with_reducible refine gst_ 32 rfl ?_);refine sa32_ ?_)|((with_reducible refine gld_ 32 rfl ?_);refine la32_ ?_))
      refine bodyPost_ret (qau_ rfl _ _ Mb 26 #[I L 0,Y none 0 0] (0,0) _ rfl Z10 Try.underlying26 rfl (by kernel_rfl)) rfl ?_;exact ⟨_,er_,by first|exact Kd.R_nil _ _ _ _ _|exact Kd.N_nil _ _ _ _ _|exact Kd.V_nil _ _ _ _ _|exact Kd.Q_nil _ _ _ _ _|exact Kd.S_nil _ _ _ _ _,pB_ HB.out⟩
     ·rw [if_neg W] at H
      have aq:decide ((wrap64 (3 * (a.length:Int))) < (wrap64 (4 * (wrap64 (Me+1)))))=false:=decide_eq_false W;clear W;refine rw_ aq ?_;obtain ⟨Jz,aN,H⟩:=bs_.mp H;(try dsimp only at H);have aZ:=D aN;clear aN;simp only [Option.some.injEq,Prod.mk.injEq] at H;obtain ⟨rfl,rfl,rfl⟩:=H;(try have:=Xe.out);(try have:=Ud.out);(try have:=Jf.out);(try have:=Xd.out);(try have:=Ke.out);(try have:=Od.out);have Jm1:=ql_ Kb.out;(try have:=Md.out);(try have:=Jd.out);(try have:=Oc.out);(try have:=Uc.out)
      go_wp2_with (first|((with_reducible refine gst_ 3 rfl ?_);refine sc3_ ?_)|((with_reducible refine gst_ 32 rfl ?_);refine sa32_ ?_)|((with_reducible refine gld_ 32 rfl ?_);refine la32_ ?_)|((with_reducible refine qd_ (f:=22) rfl ?_);refine qk_ (some 54) rfl rfl Try.func22 (by kernel_rfl) rfl #[.agg #[I L Ob,Y Xc Ma.length Jc],.agg #[I L c,I L d,I L i,I L l,I L q,I L r,I L s,I L u,I L y,I L z,I L A,I L B,I L E,I L G],I L a2] rfl Z12 ?_;(with_reducible refine (spec_l11Into.calls kj3 Ob (fun k_=>some k_=(Y Xc Ma.length Jc:Value).ownBlock) (Y Xc Ma.length Jc) Ma c d i l q r s u y z A B E G a2 Jz w _ ?side1 ?side2 aZ.out).mono ?_);(case side1=>exact pB_ HB.out);(case side2=>exact Kd.R_tight rfl Jb.out);rintro e b5 ⟨rfl,aO,hb,hkp⟩;refine ⟨_,rfl,?_⟩;have n_:=an_ (blk_kept (pk_ Oa.out) hkp (fun hs_=>(fun e_=>(Kd.R_ne Jb.out Oa.out (by decide)) e_) hs_))<|an_ (blk_kept (pk_ Ja.out) hkp (fun hs_=>(fun e_=>(Kd.R_ne Jb.out Ja.out (by decide)) e_) hs_))<|an_ (blk_kept (pk_ Ua.out) hkp (fun hs_=>(fun e_=>(Kd.R_ne Jb.out Ua.out (by decide)) e_) hs_))<|an_ (Kd.R_reok rfl aO (fun k_ e_=>Jb.out.1 k_ e_))<|an_ (blk_kept (pk_ Kb.out) hkp (fun hs_=>(fun e_=>(Kd.R_ne Jb.out Kb.out (by decide)) e_) hs_))<|D (hb);clear Oa Ja Ua Jb Kb HB;obtain ⟨Oa,Ja,Ua,Jb,Kb,HB⟩:=n_;(try clear hb);(try clear hkp);(try clear aO);have Mr1:=ql_ Kb.out;(try have:=Mc.out);(try have:=Kc.out);have Js1:=ql_ Ua.out))
      refine bodyPost_ret (qau_ rfl _ _ Mb 26 #[I L Ob,Y Xc Ma.length Jc] (0,0) _ rfl Z7 Try.underlying26 rfl (by kernel_rfl)) rfl ?_;exact ⟨_,er_,by (with_reducible repeat (first|apply Kd.R_alloc|apply Kd.R_drewN|apply Kd.R_drew));exact Kd.R_mono (fr_ (fr_ (Kd.R_types Jb.out Ua.out (by decide)) 0 (I L Ob)) 1 (Y Xc Ma.length Jc)) (fun _ hk=>trivial),pB_ HB.out⟩
def spec_TableNew.j0:Nat→Int→Int→Bool→Option (Int×(List (S52)))
 | 0,_,_,_=>none
 | k+1,x0,x1,x11=>if x11=true then (some (0,([]:List (S52)))) else (if 0≤x1 then (if (x1:Int).toNat≤2199023255552 then ((some (List.replicate (x1:Int).toNat z52:List (S52))).bind fun a=>((spec_TableOk.f k x0 a).bind fun Kz=>(if Kz=true then (some (x0,a)) else (some (0,([]:List (S52))))))) else (none)) else (none))
def spec_TableNew.f (k:Nat) (a0 a1:Int):Option (Int×(List (S52))):=if a1 < 4 then (spec_TableNew.j0 k a0 a1 true) else (spec_TableNew.j0 k a0 a1 (decide (a1 > 64)))
theorem spec_TableNew.calls (k:Nat) (a0 a1 j:Int) (l:List (S52)) (w:World) (h:spec_TableNew.f k a0 a1=some (j,l)) :
  Calls Try.prog 40 #[I L a0,I L a1] w fun e w'=>∃ A:Value,e=.returned (.agg #[I L j,A])∧Kd.R k52 52 w' w.heap.size (fun _=>True) A l∧Below w.heap.size w w':=by
 have hu26:=Try.underlying26
 have HB:=D (Below.refl w.heap.size w)
 have H:(if a1 < 4 then (spec_TableNew.j0 k a0 a1 true) else (spec_TableNew.j0 k a0 a1 (decide (a1 > 64))))=some (j,l):=h
 clear h
 have x:=D H
 clear H
 go_enter Try.func40,Try.ntmps40
 go_upto_region 1 with (first|((with_reducible refine qg_ (N:=4) rfl ?_);refine bx_ (N:=4) (cs:=#[I L 0,Y none 0 0]) (t:=26) ?_;intro b hg M hbox hb;have n_:=an_ (qc_ (pB_ HB.out) hb)<|an_ (hbox)<|an_ (bg_ hg (pB_ HB.out):w.heap.size≤b)<|D (bg_ hg (pB_ HB.out):w.heap.size≤b);clear HB;obtain ⟨HB,BK259,O,P⟩:=n_;clear hb hbox hg))
 (try simp only [Act.put,List.setIfInBounds_toArray,List.set_cons_zero,List.set_cons_succ])
 go_cut [11] (fun v11 wc=>∃ (kq:Nat) (r:Bool),v11=.bool r∧Aside0 (spec_TableNew.j0 kq a0 a1 r=some (j,l))∧Aside0 (kq≤k)∧Aside0 (wc.heap[b]?=some (.cells #[I L 0,(Y none 0 0)] 26 (0,0)))∧Aside0 (Below w.heap.size w wc))
 case first =>
  have H:=x.out;clear x
  by_cases c5:a1 < 4
  ·rw [if_pos c5] at H
   have s:decide (a1 < 4)=true:=decide_eq_true c5;clear c5;refine rw_ s ?_;have H':=D H;clear H
   go_wp2
   go_meet
   case rel=>exact ⟨_,(true),Z35,H',⟨by first | omega | exact Nat.le_refl _⟩,⟨pk_ BK259.out⟩,⟨pB_ HB.out⟩⟩
  ·rw [if_neg c5] at H
   have s:decide (a1 < 4)=false:=decide_eq_false c5;clear c5;refine rw_ s ?_;have H':=D H;clear H
   go_wp2
   go_meet
   case rel=>exact ⟨_,(decide (a1 > 64)),Z35,H',⟨by first | omega | exact Nat.le_refl _⟩,⟨pk_ BK259.out⟩,⟨pB_ HB.out⟩⟩
 case rest =>
  clear x
  (try clear T);(try clear c4);(try clear c5);(try clear s)
  obtain ⟨kq,r,rfl,HA,U,BK259,HB⟩:=hcut
  cases kq with
  | zero=>exact absurd HA.out (by simp [spec_TableNew.j0])
  | succ kj2 =>
   have H:=HA.out;clear HA;simp only [spec_TableNew.j0] at H
   by_cases c6:r=true
   ·subst c6
    rw [if_pos rfl] at H;simp only [Option.some.injEq,Prod.mk.injEq] at H;obtain ⟨rfl,rfl⟩:=H;obtain ⟨W,X,Z,aa⟩:=ql_ BK259.out
    go_wp2
    refine bodyPost_ret (results_cell_row rfl _ _ b 26 #[I L 0,Y none 0 0] (0,0) _ rfl Z6 Try.underlying26 rfl (by kernel_rfl)) rfl ?_;exact ⟨_,er_,by first|exact Kd.R_nil _ _ _ _ _|exact Kd.N_nil _ _ _ _ _|exact Kd.V_nil _ _ _ _ _|exact Kd.Q_nil _ _ _ _ _|exact Kd.S_nil _ _ _ _ _,pB_ HB.out⟩
   ·replace c6:=Bool.eq_false_iff.mpr c6
    subst c6;rw [if_neg (show ¬ (false=true) by decide)] at H
    by_cases c8:0≤a1
    ·rw [if_pos c8] at H
     have ab:=eq_true c8;have ac:decide (0≤a1)=true:=decide_eq_true c8;clear c8
     by_cases c9:(a1:Int).toNat≤2199023255552
     ·rw [if_pos c9] at H
      have ad:=eq_true c9;have ae:decide ((a1:Int).toNat≤2199023255552)=true:=decide_eq_true c9;clear c9;obtain ⟨d,m⟩:∃ y_:List (S52),y_=(List.replicate (a1:Int).toNat z52):=⟨_,rfl⟩
      replace H:((spec_TableOk.f kj2 a0 d).bind fun u=>(if u=true then (some (a0,d)) else (some (0,([]:List (S52))))))=some (j,l):=by first|(rw [m];with_reducible exact H)|(have H2_:=(Option.bind_some _ _).symm.trans H;rw [m];with_reducible exact H2_)|(have H2_:=(Option.bind_some _ _).symm.trans H;with_reducible exact H2_)|with_reducible exact H|(rw [m];exact H)|exact H
      have B:=D m;clear m;obtain ⟨u,E,H⟩:=bs_.mp H;(try dsimp only at H);have J:=D E;clear E;have G:=D H;clear H
      go_upto_if 19 with (first|((with_reducible refine qg_ (N:=15) rfl ?_);refine Kd.R_make k52 _ 52 rfl (N:=15) rfl 24 _ _ rfl a1 rfl rfl Try.underlying24 (.agg #[(.bool false),(I L 0),(I L 0),(I L 0),(I L 0),(I L 0),(I L 0),(I L 0),(I L 0),(I L 0),(I L 0),(I L 0),(I L 0),(I L 0),(I L 0),(I L 0)]) 128 info52 rfl (by decide) (by omega) z52 (ok:=fun _=>True) (okp:=fun _=>True) (k52_mkM _ _ _ z52 ) (fun _ hk=>hk) trivial (od_ Z22) (Nat.le_trans (Nat.mul_le_mul_right _ (od_ Z22:a1.toNat≤2199023255552)) (by omega)) (Below.refl _ _) (Nat.le_refl _) ?_;intro af ag p hb hg_ hnew_;clear hg_ hnew_;(first|rw [← B.out] at p|(simp only [Int.reduceToNat] at p;rw [← B.out] at p));have n_:=an_ (Kd.R_lower p (qh_ (pB_ HB.out)))<|an_ (qb_ (pk_ BK259.out) hb)<|D (qc_ (pB_ HB.out) hb);clear BK259 HB;obtain ⟨a,BK259,HB⟩:=n_;clear hb p;obtain ⟨Ao14,co14,K⟩:=Kd.R_slice a.out;subst K)|((with_reducible refine qg_ (N:=5) rfl ?_);refine bx_ (N:=5) (cs:=#[I L 0,Y none 0 0]) (t:=26) ?_;intro q hg ah hbox hb;have n_:=an_ (Kd.R_below (pR_ a.out) hb)<|an_ (qb_ (pk_ BK259.out) hb)<|an_ (qc_ (pB_ HB.out) hb)<|an_ (hbox)<|an_ (bg_ hg (pB_ HB.out):w.heap.size≤q)<|an_ (bg_ hg (pB_ HB.out):w.heap.size≤q)<|an_ (nl_ hg (pk_ BK259.out):b≠q)<|D (by rw [hg];exact Nat.ne_of_gt (qz_ (pk_ BK259.out)):q≠b);clear a BK259 HB;obtain ⟨a,BK259,HB,i,ai,aj,y,z⟩:=n_;clear hb hbox hg;(try have:=z.out);(try have:=y.out);have ak:=ql_ i.out)|((with_reducible refine qd_ (f:=17) rfl ?_);refine qk_ (some 18) rfl rfl Try.func17 (by kernel_rfl) rfl #[.agg #[I L a0,Y Ao14 d.length co14]] rfl Z12 ?_;(with_reducible refine (spec_TableOk.calls kj2 a0 _ _ d u _ ?side1 ?side2 J.out).mono ?_);(case side1=>refine (Kd.R_reads' (e:=52) (base:=w.heap.size) (ok:=fun k_=>True) (n:=d.length) (c:=co14) ?_).2.2;exact (rM_ (Kd.R_types a.out i.out (by decide)) (fun _ h_=>h_.1)));(case side2=>exact (Kd.R_reads' a.out).2.1);rintro e al ⟨rfl,hb⟩;refine ⟨_,rfl,?_⟩;have n_:=an_ (Kd.R_below (rM_ (Kd.R_types a.out i.out (by decide)) (fun _ h_=>h_.1)) hb)<|an_ (qb_ (g:=b) (o:=.cells #[I L 0,Y none 0 0] 26 (0,0)) (by exact pP_ BK259.out) hb)<|an_ (qb_ (g:=q) (o:=.cells #[I L a0,Y Ao14 d.length co14] 26 (0,0)) (by exact pP_ i.out) hb)<|D (qc_ (pB_ HB.out) hb);clear a BK259 i HB;obtain ⟨a,BK259,i,HB⟩:=n_;(try clear hb)))
      have H:=G.out;clear G
      by_cases v:u=true
      ·subst v
       rw [if_pos rfl] at H;simp only [Option.some.injEq,Prod.mk.injEq] at H;obtain ⟨rfl,rfl⟩:=H;(try have:=z.out);(try have:=y.out);have am:=ql_ i.out;have an:=ql_ BK259.out
       go_wp2
       refine bodyPost_ret (results_cell_row rfl _ _ b 26 #[I L a0,Y Ao14 d.length co14] (0,0) _ rfl (by exact pP_ BK259.out) Try.underlying26 rfl (by kernel_rfl)) rfl ?_;exact ⟨_,er_,by (with_reducible repeat (first|apply Kd.R_alloc|apply Kd.R_drewN|apply Kd.R_drew));exact Kd.R_mono (fr_ (fr_ (Kd.R_types a.out BK259.out (by decide)) 0 (I L a0)) 1 (Y Ao14 d.length co14)) (fun _ hk=>trivial),pB_ HB.out⟩
      ·replace v:=Bool.eq_false_iff.mpr v
       subst v;rw [if_neg (show ¬ (false=true) by decide)] at H;simp only [Option.some.injEq,Prod.mk.injEq] at H;obtain ⟨rfl,rfl⟩:=H;(try have:=y.out);(try have:=z.out);have ao:=ql_ BK259.out
       go_wp2
       refine bodyPost_ret (results_cell_row rfl _ _ b 26 #[I L 0,Y none 0 0] (0,0) _ rfl Z6 Try.underlying26 rfl (by kernel_rfl)) rfl ?_;exact ⟨_,er_,by first|exact Kd.R_nil _ _ _ _ _|exact Kd.N_nil _ _ _ _ _|exact Kd.V_nil _ _ _ _ _|exact Kd.Q_nil _ _ _ _ _|exact Kd.S_nil _ _ _ _ _,pB_ HB.out⟩
     ·rw [if_neg c9] at H
      exact absurd H (by simp)
    ·rw [if_neg c8] at H
     exact absurd H (by simp)
def spec_l01Cur_wide.f (a:List Int) (e g a1:Int):Option (Int×Int×Int):=(spec_l01Cur_pick.f a e g 256).bind fun b=>((spec_l01Cur_pick.f a b.2.1 b.2.2 256).bind fun c=>((spec_l01Cur_pick.f a c.2.1 c.2.2 256).bind fun d=>(if a1=0 then (none) else (some (Int.tmod (wrap64 ((wrap64 ((wrap64 (65536 * b.1))+(wrap64 (256 * c.1))))+d.1)) a1,d.2.1,d.2.2)))))
theorem spec_l01Cur_wide.calls (g:Nat) (a:List Int) (c d a1 i j k:Int) (b w:World) (hI:IsS61 b w g a c d) (hB:Below b.heap.size b w) (h:spec_l01Cur_wide.f a c d a1=some (i,j,k)) :
  Calls Try.prog 41 #[.pointer (some ⟨g,0,none⟩),I L a1] w fun e w'=>e=.returned (I L i)∧IsS61 b w' g a j k∧Below b.heap.size b w'∧KeepBut w w' g none:=by
 have HI0:=D hI
 have HK:=D (KeepBut.refl w g none)
 have HL:=D hB.size
 clear hI
 have J:=D hB.size
 have HB:=D hB
 clear hB
 have H:((spec_l01Cur_pick.f a c d 256).bind fun l=>((spec_l01Cur_pick.f a l.2.1 l.2.2 256).bind fun m=>((spec_l01Cur_pick.f a m.2.1 m.2.2 256).bind fun n=>(if a1=0 then (none) else (some (Int.tmod (wrap64 ((wrap64 ((wrap64 (65536 * l.1))+(wrap64 (256 * m.1))))+n.1)) a1,n.2.1,n.2.2))))))=some (i,j,k):=h
 clear h
 obtain ⟨⟨v,o,p⟩,q,H⟩:=bs_.mp H
 (try dsimp only at H)
 have x:=D q
 clear q
 obtain ⟨⟨y,r,s⟩,t,H⟩:=bs_.mp H
 (try dsimp only at H)
 have z:=D t
 clear t
 obtain ⟨⟨A,B,E⟩,u,H⟩:=bs_.mp H
 (try dsimp only at H)
 have G:=D u
 clear u
 by_cases c6:a1=0
 ·rw [if_pos c6] at H
  exact absurd H (by simp)
 ·rw [if_neg c6] at H
  have K:(a1 == 0)=false:=beq_eq_false_iff_ne.mpr c6;have M:(a1 != 0)=true:=bne_iff_ne.mpr c6;simp only [Option.some.injEq,Prod.mk.injEq] at H;obtain ⟨rfl,rfl,rfl⟩:=H;go_enter Try.func41,Try.ntmps41
  go_wp2_with (first|((with_reducible refine qd_ (f:=15) rfl ?_);refine qk_ (some 6) rfl rfl Try.func15 (by kernel_rfl) rfl #[.pointer (some ⟨g,0,none⟩),I L 256] rfl Z12 ?_;(with_reducible refine (spec_l01Cur_pick.calls g a c d 256 v o p b _ ?side1 ?side2 x.out).mono ?_);(case side1=>exact pS61_ HI0.out);(case side2=>exact pT61_ HB.out);rintro e O ⟨rfl,hi,hb,hk⟩;refine ⟨_,rfl,?_⟩;have n_:=an_ (KeepBut.trans (pK_ HK.out) hk (.inl rfl))<|an_ (hb)<|D (hi);clear HK HB HI0;obtain ⟨HK,HB,HI0⟩:=n_;(try clear hb);(try clear hk);(try clear hi))|((with_reducible refine qd_ (f:=15) rfl ?_);refine qk_ (some 9) rfl rfl Try.func15 (by kernel_rfl) rfl #[.pointer (some ⟨g,0,none⟩),I L 256] rfl Z12 ?_;(with_reducible refine (spec_l01Cur_pick.calls g a o p 256 y r s b _ ?side1 ?side2 z.out).mono ?_);(case side1=>exact pS61_ HI0.out);(case side2=>exact pT61_ HB.out);rintro e P ⟨rfl,hi,hb,hk⟩;refine ⟨_,rfl,?_⟩;have n_:=an_ (KeepBut.trans (pK_ HK.out) hk (.inl rfl))<|an_ (hb)<|D (hi);clear HK HB HI0;obtain ⟨HK,HB,HI0⟩:=n_;(try clear hb);(try clear hk);(try clear hi))|((with_reducible refine qd_ (f:=15) rfl ?_);refine qk_ (some 13) rfl rfl Try.func15 (by kernel_rfl) rfl #[.pointer (some ⟨g,0,none⟩),I L 256] rfl Z12 ?_;(with_reducible refine (spec_l01Cur_pick.calls g a r s 256 A B E b _ ?side1 ?side2 G.out).mono ?_);(case side1=>exact pS61_ HI0.out);(case side2=>exact pT61_ HB.out);rintro e T ⟨rfl,hi,hb,hk⟩;refine ⟨_,rfl,?_⟩;have n_:=an_ (KeepBut.trans (pK_ HK.out) hk (.inl rfl))<|an_ (hb)<|D (hi);clear HK HB HI0;obtain ⟨HK,HB,HI0⟩:=n_;(try clear hb);(try clear hk);(try clear hi)))
  go_ret;exact ⟨er_,pS61_ HI0.out,pT61_ HB.out,pK_ HK.out⟩
def spec_l01Cur_size.f (b:List Int) (c d a1:Int):Option (Int×Int×Int):=(spec_l01Cur_pick.f b c d (wrap64 ((mn a1 (wrap64 (1+(wrap64 ((b.length:Int) / 8)))))+1))).bind fun a=>(some (a.1,a.2.1,a.2.2))
theorem spec_l01Cur_size.calls (g:Nat) (a:List Int) (d i a1 j k l:Int) (b w:World) (hI:IsS61 b w g a d i) (hB:Below b.heap.size b w) (h:spec_l01Cur_size.f a d i a1=some (j,k,l)) :
  Calls Try.prog 42 #[.pointer (some ⟨g,0,none⟩),I L a1] w fun e w'=>e=.returned (I L j)∧IsS61 b w' g a k l∧Below b.heap.size b w'∧KeepBut w w' g none:=by
 have HI0:=D hI
 have HK:=D (KeepBut.refl w g none)
 have HL:=D hB.size
 clear hI
 have s:=D hB.size
 have HB:=D hB
 clear hB
 have H:((spec_l01Cur_pick.f a d i (wrap64 ((mn a1 (wrap64 (1+(wrap64 ((a.length:Int) / 8)))))+1))).bind fun c=>(some (c.1,c.2.1,c.2.2)))=some (j,k,l):=h
 clear h
 obtain ⟨m,hji3⟩:∃ j_:Int,(mn a1 (wrap64 (1+(wrap64 ((a.length:Int) / 8)))))=j_:=⟨_,rfl⟩
 replace H:((spec_l01Cur_pick.f a d i (wrap64 ((m)+1))).bind fun c=>(some (c.1,c.2.1,c.2.2)))=some (j,k,l):=by first|(rw [hji3] at H;exact H)|(simp only [hji3] at H ⊢;exact H)
 have hji3_:(if (wrap64 (1+(wrap64 ((a.length:Int) / 8)))) < a1 then (wrap64 (1+(wrap64 ((a.length:Int) / 8)))) else a1)=m:=hji3
 obtain ⟨⟨o,p,q⟩,n,H⟩:=bs_.mp H
 (try dsimp only at H)
 have r:=D n
 clear n
 simp only [Option.some.injEq,Prod.mk.injEq] at H
 obtain ⟨rfl,rfl,rfl⟩:=H
 obtain ⟨ASz5_0,cSz5_0,HGz5,hgz5,HSz5_0⟩:=HI0.out
 have t:=cellS61_0 HGz5
 have u:=cellS61_1 HGz5
 have v:=cellS61_2 HGz5
 have x:=qj_ HGz5 1
 have y:=qj_ HGz5 2
 clear HGz5 hgz5
 go_enter Try.func42,Try.ntmps42
 go_wp2_with (first|((with_reducible refine qd_ (f:=15) rfl ?_);refine qk_ (some 16) rfl rfl Try.func15 (by kernel_rfl) rfl #[.pointer (some ⟨g,0,none⟩),I L (wrap64 ((m)+1))] rfl (by (try simp only [List.map_toArray,List.map_cons,List.map_nil]);first|done|(simp only [hji3];rfl)|rfl|(simp only [List.length_drop,List.length_take];rfl)) ?_;(with_reducible refine (spec_l01Cur_pick.calls g a d i (wrap64 ((m)+1)) o p q b _ ?side1 ?side2 r.out).mono ?_);(case side1=>exact pS61_ HI0.out);(case side2=>exact pT61_ HB.out);rintro e z ⟨rfl,hi,hb,hk⟩;refine ⟨_,rfl,?_⟩;have n_:=an_ (KeepBut.trans (pK_ HK.out) hk (.inl rfl))<|an_ (hb)<|D (hi);clear HK HB HI0;obtain ⟨HK,HB,HI0⟩:=n_;(try clear hb);(try clear hk);(try clear hi)))
 go_ret
 exact ⟨by first|rfl|(simp [qag_,qaf_] <;> rfl)|(simp only [← hji3];first|rfl|(simp [qag_,qaf_] <;> rfl))|(simp [*,qag_,qaf_] <;> rfl),pS61_ HI0.out,pT61_ HB.out,pK_ HK.out⟩
def spec_l01Cur_kind.f (c:List Int) (d e:Int):Option (Int×Int×Int):=(some (([4,4,6]:List Int):List Int)).bind fun b=>((spec_l01Cur_pick.f c d e 3).bind fun a=>(if 0≤a.1 then (if a.1 < (b.length:Int) then (some (rd b a.1,a.2.1,a.2.2)) else (none)) else (none)))
theorem spec_l01Cur_kind.calls (g:Nat) (i:List Int) (j k o p q:Int) (b w:World) (hI:IsS61 b w g i j k) (hB:Below b.heap.size b w) (h:spec_l01Cur_kind.f i j k=some (o,p,q)) :
  Calls Try.prog 63 #[.pointer (some ⟨g,0,none⟩)] w fun e w'=>e=.returned (I L o)∧IsS61 b w' g i p q∧Below b.heap.size b w'∧KeepBut w w' g none:=by
 have HI0:=D hI
 have HK:=D (KeepBut.refl w g none)
 have HL:=D hB.size
 clear hI
 have B:=D hB.size
 have HB:=D hB
 clear hB
 have H:((some (([4,4,6]:List Int):List Int)).bind fun c=>((spec_l01Cur_pick.f i j k 3).bind fun a=>(if 0≤a.1 then (if a.1 < (c.length:Int) then (some (rd c a.1,a.2.1,a.2.2)) else (none)) else (none))))=some (o,p,q):=h
 clear h
 obtain ⟨c,l⟩:∃ y_:List Int,y_=(([4,4,6]:List Int)):=⟨_,rfl⟩
 replace H:((spec_l01Cur_pick.f i j k 3).bind fun a=>(if 0≤a.1 then (if a.1 < (c.length:Int) then (some (rd c a.1,a.2.1,a.2.2)) else (none)) else (none)))=some (o,p,q):=by first|(rw [l];with_reducible exact H)|(have H2_:=(Option.bind_some _ _).symm.trans H;rw [l];with_reducible exact H2_)|(have H2_:=(Option.bind_some _ _).symm.trans H;with_reducible exact H2_)|with_reducible exact H|(rw [l];exact H)|exact H
 have t:=D l
 clear l
 obtain ⟨⟨d,v,x⟩,u,H⟩:=bs_.mp H
 (try dsimp only at H)
 have y:=D u
 clear u
 by_cases c3:0≤d
 ·rw [if_pos c3] at H
  have E:decide (0≤d)=true:=decide_eq_true c3;clear c3
  by_cases c4:d < (c.length:Int)
  ·rw [if_pos c4] at H
   have G:decide (d < (c.length:Int))=true:=decide_eq_true c4;clear c4;simp only [Option.some.injEq,Prod.mk.injEq] at H;obtain ⟨rfl,rfl,rfl⟩:=H;go_enter Try.func63,Try.ntmps63
   go_wp2_with (first|((with_reducible refine qg_ (N:=3) rfl ?_);refine Kd.R_lit (Kd.int .i64) _ 3 ?hg (N:=3) ?hd (xs:=([4,4,6]:List Int)) (inner:=[I L 4,I L 4,I L 6]) (ok:=fun _=>True) (okp:=fun _=>True) ?hr ?hp (fun _ hk=>hk) trivial (Below.refl _ _) (Nat.le_refl _) (by simp) ?_;(case hd=>rfl);(case hg=>rfl);(case hr=>first|(go_simp;done)|(go_simp;rfl));(case hp=>exact (Reps.one (show Kd.M (Kd.int .i64) _ _ _ 4 [I L 4] from rfl) (Reps.one (show Kd.M (Kd.int .i64) _ _ _ 4 [I L 4] from rfl) (Reps.one (show Kd.M (Kd.int .i64) _ _ _ 6 [I L 6] from rfl) (Reps.none _ _)))));intro J K m hb hg_ hnew_;clear hg_ hnew_;(first|rw [← t.out] at m|(simp only [Int.reduceToNat] at m;rw [← t.out] at m));have n_:=an_ (Kd.R_lower m (qo_ (w:=w) (g:=g) (row:=none) (pK_ HK.out)))<|an_ (IsS61.below (pU61_ HI0.out) hb)<|an_ (KeepBut.trans (pK_ HK.out) (KeepBut.of_below hb g none) (.inl rfl))<|D (qc_ (pT61_ HB.out) hb);clear HI0 HK HB;obtain ⟨n,HI0,HK,HB⟩:=n_;clear hb m)|((with_reducible refine qd_ (f:=15) rfl ?_);refine qk_ (some 5) rfl rfl Try.func15 (by kernel_rfl) rfl #[.pointer (some ⟨g,0,none⟩),I L 3] rfl Z12 ?_;(with_reducible refine (spec_l01Cur_pick.calls g i j k 3 d v x b _ ?side1 ?side2 y.out).mono ?_);(case side1=>exact pS61_ HI0.out);(case side2=>exact pT61_ HB.out);rintro e O ⟨rfl,hi,hb,hk⟩;refine ⟨_,rfl,?_⟩;have n_:=an_ (Kd.R_mono (Kd.R_keep (IsS61.apart (show IsS61 b _ g i j k from pS61_ HI0.out) (pR_ n.out) (by decide)) hk (fun _ h=>h.2)) (fun _ h=>h.1))<|an_ (KeepBut.trans (pK_ HK.out) hk (.inl rfl))<|an_ (hb)<|D (hi);clear n HK HB HI0;obtain ⟨n,HK,HB,HI0⟩:=n_;(try clear hb);(try clear hk);(try clear hi);obtain ⟨Ao8,co8,z⟩:=Kd.R_slice n.out;subst z;have r:0≤(d:Int):=od_ Z22;have s:d < (c.length:Int):=od_ Z22;obtain ⟨P,A,T⟩:=Kd.at_int (Kd.R_reads' n.out).2.2 d r s;cases A;replace r:=eq_true r;replace s:=eq_true s))
   go_ret;exact ⟨er_,pS61_ HI0.out,pT61_ HB.out,pK_ HK.out⟩
  ·rw [if_neg c4] at H
   exact absurd H (by simp)
 ·rw [if_neg c3] at H
  exact absurd H (by simp)
end Go.Proofs.Yteahaehbciccmaa.PFnPutDrop
