-- by a program of this session's, over the kit's words
import Derived.Test.YteahaehbciccmaaPZFnPutDrop
import Derived.Test.YteahaehbciccmaaPFnPutDropx0
import Derived.Test.YteahaehbciccmaaPFnPutDropx15
import Derived.Test.YteahaehbciccmaaPFnPutDropx16
import Derived.Test.YteahaehbciccmaaPFnPutDropx19
import Derived.Test.YteahaehbciccmaaPFnPutDropx20
namespace Go.Proofs.Yteahaehbciccmaa.PFnPutDrop
open Go.RowKit Go.Proofs.YteahaehbciccmaaW.PrintWords Go.Proofs.YteahaehbciccmaaW.PrintLast Go.Proofs.YteahaehbciccmaaW.PrintMore Go.Proofs.YteahaehbciccmaaV Go.Proofs.Yteahaehbciccmaa.ZFnPutDrop
open Go.Value renaming int → I, slice → Y
open Go.IntKind renaming i64 → L
open Aside0 renaming mk → D
open Option renaming bind_eq_some_iff → bs_
attribute [local go_sem] qad_ qab_ qak_ qaj_ q4_ q3_ qac_ qaa_
set_option linter.unusedVariables false
set_option linter.unusedSimpArgs false
set_option maxHeartbeats 8000000
set_option maxRecDepth 100000
def impl_copyTable.f (a:Int) (b:List (S52)):Option (Int×(List (S52))):=(slices_Clone_impl_Cell_impl_Cell.f b).bind fun c=>(some (a,c))
theorem impl_copyTable.calls (d:Int) (k:Option Addr) (l:Nat) (c:List (S52)) (p:Int) (q:List (S52)) (w:World) (r:Kd.C k52 w k c.length c) (s:c.length≤l) (h:impl_copyTable.f d c=some (p,q)) :
  Calls Try.prog 28 #[.agg #[I L d,Y k c.length l]] w fun e w'=>∃ u:Value,e=.returned (.agg #[I L p,u])∧Kd.R k52 52 w' w.heap.size (fun _=>True) u q∧Below w.heap.size w w':=by
 have hu26:=Try.underlying26
 have E:=D r
 have G:=D s
 clear r s
 have HB:=D (Below.refl w.heap.size w)
 have H:((slices_Clone_impl_Cell_impl_Cell.f c).bind fun m=>(some (d,m)))=some (p,q):=h
 clear h
 obtain ⟨m,v,H⟩:=bs_.mp H
 (try dsimp only at H)
 have J:=D v
 clear v
 simp only [Option.some.injEq,Prod.mk.injEq] at H
 obtain ⟨rfl,rfl⟩:=H
 go_enter Try.func28,Try.ntmps28
 try go_wp2_with (first|((with_reducible refine qg_ (N:=1) rfl ?_);refine bx_ (N:=1) (cs:=#[I L d,Y k c.length l]) (t:=26) ?_;intro j hg O hbox hb;have n_:=an_ (qc_ (pB_ HB.out) hb)<|an_ (hbox)<|an_ (bg_ hg (pB_ HB.out):w.heap.size≤j)<|D (bg_ hg (pB_ HB.out):w.heap.size≤j);clear HB;obtain ⟨HB,a,P,T⟩:=n_;clear hb hbox hg)|((with_reducible refine qg_ (N:=2) rfl ?_);refine bx_ (N:=2) (cs:=#[I L 0,Y none 0 0]) (t:=26) ?_;intro g hg M hbox hb;have n_:=an_ (qb_ (pk_ a.out) hb)<|an_ (qc_ (pB_ HB.out) hb)<|an_ (hbox)<|an_ (bg_ hg (pB_ HB.out):w.heap.size≤g)<|an_ (bg_ hg (pB_ HB.out):w.heap.size≤g)<|an_ (nl_ hg (pk_ a.out):j≠g)<|D (by rw [hg];exact Nat.ne_of_gt (qz_ (pk_ a.out)):g≠j);clear a HB;obtain ⟨a,HB,b,U,W,o,x⟩:=n_;clear hb hbox hg))
 have n_:=an_ (qt_ a.out)<|an_ (qt_ b.out)<|D (qr_ HB.out)
 clear a b HB
 obtain ⟨a,b,HB⟩:=n_
 refine qaw_ (n:=7) (S:=fun w'=>w'.cell? ⟨j,0,none⟩=some (I L d)∧w'.cell? ⟨j,1,none⟩=some (Y k c.length l)) (ds:=[]) (bz 7 0) (by kernel_rfl) rfl (by kernel_rfl) (be2_ a.out) (fun hHeld=>?_)
 generalize M.drew=X at a b HB hHeld ⊢
 refine px_ (i:=0) (N:=some 3) (bz 7 1) (by kernel_rfl) ?_
 refine px_ (i:=2) (N:=some 5) (bz 7 5) (by kernel_rfl) ?_
 refine tx_ (i:=1) (N:=some 4) (bz 7 7) rfl rfl (by kernel_rfl) hHeld Z23 ?_
 refine tx_ (i:=3) (N:=some 6) (bz 7 15) rfl rfl (by kernel_rfl) hHeld Z23 ?_
 refine one_ (i:=4) (N:=some 7) (bz 7 31) rfl rfl (by kernel_rfl) (by decide) (fun K hK=>?_)
 refine goes_ Try.func38 (by kernel_rfl) rfl #[Y k c.length l] (by rfl) rfl rfl Z12 ?_
 with_reducible refine (slices_Clone_impl_Cell_impl_Cell.calls _ _ c m _ ?side1 ?side2 J.out).mono ?_
 (case side1=>exact pC_ (Kd.C_below E.out HB.out))
 (case side2=>exact G.out)
 rintro e y ⟨Z,rfl,z,hb⟩
 refine ⟨_,rfl,?_⟩
 have n_:=an_ (Kd.R_lower z (qh_ (pB_ HB.out)))<|an_ (qb_ (pk_ a.out) hb)<|an_ (qb_ (pk_ b.out) hb)<|D (qc_ (pB_ HB.out) hb)
 clear a b HB
 obtain ⟨A,a,b,HB⟩:=n_
 (try clear hb)
 (try clear aa)
 (try clear hk)
 (try clear hi)
 (try clear z)
 obtain ⟨Ao7,co7,B⟩:=Kd.R_slice A.out
 (first | subst B | obtain ⟨rfl,rfl⟩:=qas_ B)
 refine hK.out _ _ ⟨bc_ a.out 0,(bc_ a.out 1)⟩ (fun hHeld=>?_)
 clear hK K
 refine nx_ (N:=some 7) ?_
 refine px_ (i:=5) (N:=some 8) (bz 7 63) (by kernel_rfl) ?_
 refine one_ (i:=6) (N:=none) (bz 7 127) rfl rfl (by kernel_rfl) (by decide) (fun K hK=>?_)
 have ab:y.cell? ⟨g,0,none⟩=some (I L 0):=(bc_ b.out 0)
 have ac:=qj_ b.out 0
 have ad:=o.out
 have ae:=x.out
 have af:y.cell? ⟨g,1,none⟩=some (Y none 0 0):=(bc_ b.out 1)
 have ag:=qj_ b.out 1
 have ah:=o.out
 have ai:=x.out
 refine skip_ (w1:=?_) (by rfl) rfl ?_ ?_
 rotate_left
 ·go_simp
  rfl
 refine hK.out _ _ ⟨(cF_ o.out (hHeld.1)),(cF_ o.out (hHeld.2))⟩ (fun hHeld=>?_)
 clear hK K
 refine done_ (by kernel_rfl) ?_
 try go_wp2
 refine bodyPost_ret (results_cell_row rfl _ _ g 26 #[I L d,Y Ao7 m.length co7] (0,0) _ rfl (by exact pP_ b.out) Try.underlying26 rfl (by kernel_rfl)) rfl ?_
 exact ⟨_,er_,by (with_reducible repeat (first|apply Kd.R_alloc|apply Kd.R_drewN|apply Kd.R_drew));exact Kd.R_mono (fr_ (fr_ (Kd.R_types A.out b.out (by decide)) 0 (I L d)) 1 (Y Ao7 m.length co7)) (fun _ hk=>trivial),pB_ HB.out⟩
mutual
def impl_TablePut.j0:Nat→Int→Bool→Int→List (S52)→Int→Int→Int→Int→Int→Int→Int→Int→Int→Int→Int→Int→Int→Int→Option (Int×(List (S52))×Int)
 | 0,_,_,_,_,_,_,_,_,_,_,_,_,_,_,_,_,_,_=>none
 | k+1,x2,u,a,b,c,d,e,g,h,i,j,l,m,n,o,p,q,r=>if u=true then (some (0,([]:List (S52)),1)) else ((impl_Table_find.f k a b c d e g h i j l m n o p q r).bind fun v=>(if v.2=true then (impl_TablePut.j1 k x2 false a b c d e g h i j l m n o p q r) else ((impl_Table_isFull.f k a b).bind fun w=>(impl_TablePut.j1 k x2 w a b c d e g h i j l m n o p q r))))
def impl_TablePut.j1:Nat→Int→Bool→Int→List (S52)→Int→Int→Int→Int→Int→Int→Int→Int→Int→Int→Int→Int→Int→Int→Option (Int×(List (S52))×Int)
 | 0,_,_,_,_,_,_,_,_,_,_,_,_,_,_,_,_,_,_=>none
 | k+1,x2,x,a,b,c,d,e,g,h,i,j,l,m,n,o,p,q,r=>if x=true then (some (0,([]:List (S52)),2)) else ((impl_copyTable.f a b).bind fun s=>((impl_Table_probe.f k s.1 s.2 c d e g h i j l m n o p q r).bind fun t=>(if 0≤t then (if t < (s.2.length:Int) then (some (s.1,(s.2.set (t:Int).toNat (⟨true,(⟨c,(⟨(⟨d,e,g,h,i⟩:S28),(⟨j,l,m,n,o⟩:S28),p,q,r⟩:S30)⟩:S32),x2⟩:S52)),0)) else (none)) else (none))))
end
def impl_TablePut.f (k:Nat) (a:Int) (b:List (S52)) (c d e g h i j l m n o p q r a2:Int):Option (Int×(List (S52))×Int):=(impl_TableOk.f k a b).bind fun s=>(if s=true then ((impl_FlowKeyOk.f k c d e g h i j l m n o p q r).bind fun t=>(if t=true then ((impl_within.f a2 0 1000000000000).bind fun u=>(impl_TablePut.j0 k a2 (!u) a b c d e g h i j l m n o p q r)) else (impl_TablePut.j0 k a2 true a b c d e g h i j l m n o p q r))) else (impl_TablePut.j0 k a2 true a b c d e g h i j l m n o p q r))
def impl_TablePut.T7:Bool×List (List Nat×List Nat):=(true,[([],[]),([0],[0]),([],[]),([],[]),([2,3],[2,3]),([],[]),([],[]),([5,6],[5,6]),([1,4,0,1,2,3,4,5,6,7],[1,4]),([8,7,4,0,1,2,3,4,5,6,7],[7,8])])
def impl_TablePut.B7:List Nat:=[0,1,0,0,12,0,0,96,255,511]
theorem impl_TablePut.tab7:rtab .any (opsOf Try.f8 7)=impl_TablePut.T7:=by kernel_rfl
theorem impl_TablePut.bits7:q8_ impl_TablePut.T7.2 impl_TablePut.B7=true:=by kernel_rfl
theorem impl_TablePut.calls (k:Nat) (A:Int) (E:Option Addr) (G:Nat) (z:List (S52)) (a b c d g l o p q r s u v y a2 O:Int) (P:List (S52)) (T:Int) (w:World) (aq:Kd.C k52 w E z.length z) (ar:z.length≤G) (h:impl_TablePut.f k A z a b c d g l o p q r s u v y a2=some (O,P,T)) :
  Calls Try.prog 8 #[.agg #[I L A,Y E z.length G],.agg #[I L a,I L b,I L c,I L d,I L g,I L l,I L o,I L p,I L q,I L r,I L s,I L u,I L v,I L y],I L a2] w fun e w'=>∃ au:Value,e=.returned (.tuple #[.agg #[I L O,au],I L T])∧Kd.R k52 52 w' w.heap.size (fun _=>True) au P∧Below w.heap.size w w':=by
 have hu26:=Try.underlying26
 have hu32:=Try.underlying32
 have hu52:=Try.underlying52
 have U:=D aq
 have W:=D ar
 clear aq ar
 have HB:=D (Below.refl w.heap.size w)
 have H:((impl_TableOk.f k A z).bind fun Je=>(if Je=true then ((impl_FlowKeyOk.f k a b c d g l o p q r s u v y).bind fun Ke=>(if Ke=true then ((impl_within.f a2 0 1000000000000).bind fun Od=>(impl_TablePut.j0 k a2 (!Od) A z a b c d g l o p q r s u v y)) else (impl_TablePut.j0 k a2 true A z a b c d g l o p q r s u v y))) else (impl_TablePut.j0 k a2 true A z a b c d g l o p q r s u v y)))=some (O,P,T):=h
 clear h
 have al:=D H
 clear H
 go_enter Try.func8,Try.ntmps8
 go_upto_region 1 with (first|((with_reducible refine gbd_ 52 rfl ?_);refine ba52_3 ?_)|((with_reducible refine gst_ 32 rfl ?_);refine sa32_ ?_)|((with_reducible refine gld_ 32 rfl ?_);refine la32_ ?_)|((with_reducible refine qg_ (N:=3) rfl ?_);refine bx_ (N:=3) (cs:=#[I L A,Y E z.length G]) (t:=26) ?_;intro Jc hg w5 hbox hb;have n_:=an_ (qc_ (pB_ HB.out) hb)<|an_ (hbox)<|an_ (bg_ hg (pB_ HB.out):w.heap.size≤Jc)<|D (bg_ hg (pB_ HB.out):w.heap.size≤Jc);clear HB;obtain ⟨HB,Oa,Jc1,Ur⟩:=n_;clear hb hbox hg)|((with_reducible refine qg_ (N:=4) rfl ?_);refine bx_ (N:=4) (cs:=#[I L a,I L b,I L c,I L d,I L g,I L l,I L o,I L p,I L q,I L r,I L s,I L u,I L v,I L y]) (t:=32) ?_;intro Xa hg w6 hbox hb;have n_:=an_ (qb_ (pk_ Oa.out) hb)<|an_ (qc_ (pB_ HB.out) hb)<|an_ (hbox)<|an_ (bg_ hg (pB_ HB.out):w.heap.size≤Xa)<|an_ (bg_ hg (pB_ HB.out):w.heap.size≤Xa)<|an_ (nl_ hg (pk_ Oa.out):Jc≠Xa)<|D (by rw [hg];exact Nat.ne_of_gt (qz_ (pk_ Oa.out)):Xa≠Jc);clear Oa HB;obtain ⟨Oa,HB,Ka,Kc1,Xr,Uc,Xc⟩:=n_;clear hb hbox hg)|((with_reducible refine qg_ (N:=6) rfl ?_);refine bx_ (N:=6) (cs:=#[I L 0,Y none 0 0]) (t:=26) ?_;intro Xb hg w7 hbox hb;have n_:=an_ (qb_ (pk_ Oa.out) hb)<|an_ (qb_ (pk_ Ka.out) hb)<|an_ (qc_ (pB_ HB.out) hb)<|an_ (hbox)<|an_ (bg_ hg (pB_ HB.out):w.heap.size≤Xb)<|an_ (bg_ hg (pB_ HB.out):w.heap.size≤Xb)<|an_ (nl_ hg (pk_ Oa.out):Jc≠Xb)<|an_ (ng_ hg (pk_ Oa.out):Xb≠Jc)<|an_ (nl_ hg (pk_ Ka.out):Xa≠Xb)<|D (by rw [hg];exact Nat.ne_of_gt (qz_ (pk_ Ka.out)):Xb≠Xa);clear Oa Ka HB;obtain ⟨Oa,Ka,HB,Ua,Mc1,Js,Mc,Oc,Jd,Md⟩:=n_;clear hb hbox hg))
 (try simp only [Act.put,List.setIfInBounds_toArray,List.set_cons_zero,List.set_cons_succ])
 go_cut [23] (fun aO wc=>∃ (kq:Nat) (Ud:Bool),aO=.bool Ud∧Aside0 (impl_TablePut.j0 kq a2 Ud A z a b c d g l o p q r s u v y=some (O,P,T))∧Aside0 (kq≤k)∧Aside0 (wc.heap[Jc]?=some (.cells #[I L A,(Y E z.length G)] 26 (0,0)))∧Aside0 (wc.heap[Xa]?=some (.cells #[I L a,I L b,I L c,I L d,I L g,I L l,I L o,I L p,I L q,I L r,I L s,I L u,I L v,I L y] 32 (0,0)))∧Aside0 (wc.heap[Xb]?=some (.cells #[I L 0,(Y none 0 0)] 26 (0,0)))∧Aside0 (Below w.heap.size w wc))
 case first =>
  have H:=al.out;clear al;obtain ⟨Je,av,H⟩:=bs_.mp H;(try dsimp only at H);have A8:=D av;clear av
  by_cases c9:Je=true
  ·subst c9
   rw [if_pos rfl] at H;obtain ⟨Ke,aw,H⟩:=bs_.mp H;(try dsimp only at H);have ax:=D aw;clear aw
   by_cases X:Ke=true
   ·subst X
    rw [if_pos rfl] at H;obtain ⟨Od,ay,H⟩:=bs_.mp H;(try dsimp only at H);have aP:=D ay;clear ay;have H':=D H;clear H;(try have:=Uc.out);(try have:=Xc.out);(try have:=Mc.out);(try have:=Oc.out);have Xe:=ql_ Oa.out
    go_wp2_with (first|((with_reducible refine gbd_ 52 rfl ?_);refine ba52_3 ?_)|((with_reducible refine gst_ 32 rfl ?_);refine sa32_ ?_)|((with_reducible refine gld_ 32 rfl ?_);refine la32_ ?_)|((with_reducible refine qd_ (f:=23) rfl ?_);refine qk_ (some 12) rfl rfl Try.func23 (by kernel_rfl) rfl #[.agg #[I L A,Y E z.length G]] rfl Z12 ?_;(with_reducible refine (impl_TableOk.calls k A _ _ z true _ ?side1 ?side2 A8.out).mono ?_);(case side1=>exact pC_ (Kd.C_below U.out HB.out));(case side2=>exact W.out);rintro e be ⟨rfl,hb⟩;refine ⟨_,rfl,?_⟩;have n_:=an_ (qb_ (pk_ Oa.out) hb)<|an_ (qb_ (pk_ Ka.out) hb)<|an_ (qb_ (pk_ Ua.out) hb)<|D (qc_ (pB_ HB.out) hb);clear Oa Ka Ua HB;obtain ⟨Oa,Ka,Ua,HB⟩:=n_;(try clear hb);(try have:=Jd.out);(try have:=Md.out))|(go_at_call 24;(with_reducible refine (impl_FlowKeyOk.calls k a b c d g l o p q r s u v y true _ ax.out).mono ?_);rintro e bf ⟨rfl,hb⟩;have n_:=an_ (qb_ (pk_ Oa.out) hb)<|an_ (qb_ (pk_ Ka.out) hb)<|an_ (qb_ (pk_ Ua.out) hb)<|D (qc_ (pB_ HB.out) hb);clear Oa Ka Ua HB;obtain ⟨Oa,Ka,Ua,HB⟩:=n_;(try clear hb))|(go_at_call 25;(with_reducible refine (impl_within.calls a2 0 1000000000000 Od _ aP.out).mono ?_);rintro e w' ⟨rfl,⟨nd,rfl⟩⟩))
    go_meet
    case rel=>exact ⟨_,(!Od),Z35,H',⟨by first | omega | exact Nat.le_refl _⟩,⟨pk_ Oa.out⟩,⟨pk_ Ka.out⟩,⟨pk_ Ua.out⟩,⟨pB_ HB.out⟩⟩
   ·replace X:=Bool.eq_false_iff.mpr X
    subst X;rw [if_neg (show ¬ (false=true) by decide)] at H;have H':=D H;clear H;(try have:=Uc.out);(try have:=Xc.out);(try have:=Mc.out);(try have:=Oc.out);have Kk:=ql_ Oa.out
    go_wp2_with (first|((with_reducible refine gbd_ 52 rfl ?_);refine ba52_3 ?_)|((with_reducible refine gst_ 32 rfl ?_);refine sa32_ ?_)|((with_reducible refine gld_ 32 rfl ?_);refine la32_ ?_)|((with_reducible refine qd_ (f:=23) rfl ?_);refine qk_ (some 12) rfl rfl Try.func23 (by kernel_rfl) rfl #[.agg #[I L A,Y E z.length G]] rfl Z12 ?_;(with_reducible refine (impl_TableOk.calls k A _ _ z true _ ?side1 ?side2 A8.out).mono ?_);(case side1=>exact pC_ (Kd.C_below U.out HB.out));(case side2=>exact W.out);rintro e bg ⟨rfl,hb⟩;refine ⟨_,rfl,?_⟩;have n_:=an_ (qb_ (pk_ Oa.out) hb)<|an_ (qb_ (pk_ Ka.out) hb)<|an_ (qb_ (pk_ Ua.out) hb)<|D (qc_ (pB_ HB.out) hb);clear Oa Ka Ua HB;obtain ⟨Oa,Ka,Ua,HB⟩:=n_;(try clear hb);(try have:=Jd.out);(try have:=Md.out))|(go_at_call 24;(with_reducible refine (impl_FlowKeyOk.calls k a b c d g l o p q r s u v y false _ ax.out).mono ?_);rintro e bh ⟨rfl,hb⟩;have n_:=an_ (qb_ (pk_ Oa.out) hb)<|an_ (qb_ (pk_ Ka.out) hb)<|an_ (qb_ (pk_ Ua.out) hb)<|D (qc_ (pB_ HB.out) hb);clear Oa Ka Ua HB;obtain ⟨Oa,Ka,Ua,HB⟩:=n_;(try clear hb)))
    go_meet
    case rel=>exact ⟨_,(true),Z35,H',⟨by first | omega | exact Nat.le_refl _⟩,⟨pk_ Oa.out⟩,⟨pk_ Ka.out⟩,⟨pk_ Ua.out⟩,⟨pB_ HB.out⟩⟩
  ·replace c9:=Bool.eq_false_iff.mpr c9
   subst c9;rw [if_neg (show ¬ (false=true) by decide)] at H;have H':=D H;clear H;(try have:=Uc.out);(try have:=Xc.out);(try have:=Mc.out);(try have:=Oc.out);have Oq:=ql_ Oa.out
   go_wp2_with (first|((with_reducible refine gbd_ 52 rfl ?_);refine ba52_3 ?_)|((with_reducible refine gst_ 32 rfl ?_);refine sa32_ ?_)|((with_reducible refine gld_ 32 rfl ?_);refine la32_ ?_)|((with_reducible refine qd_ (f:=23) rfl ?_);refine qk_ (some 12) rfl rfl Try.func23 (by kernel_rfl) rfl #[.agg #[I L A,Y E z.length G]] rfl Z12 ?_;(with_reducible refine (impl_TableOk.calls k A _ _ z false _ ?side1 ?side2 A8.out).mono ?_);(case side1=>exact pC_ (Kd.C_below U.out HB.out));(case side2=>exact W.out);rintro e bi ⟨rfl,hb⟩;refine ⟨_,rfl,?_⟩;have n_:=an_ (qb_ (pk_ Oa.out) hb)<|an_ (qb_ (pk_ Ka.out) hb)<|an_ (qb_ (pk_ Ua.out) hb)<|D (qc_ (pB_ HB.out) hb);clear Oa Ka Ua HB;obtain ⟨Oa,Ka,Ua,HB⟩:=n_;(try clear hb)))
   go_meet
   case rel=>exact ⟨_,(true),Z35,H',⟨by first | omega | exact Nat.le_refl _⟩,⟨pk_ Oa.out⟩,⟨pk_ Ka.out⟩,⟨pk_ Ua.out⟩,⟨pB_ HB.out⟩⟩
 case rest =>
  clear al
  (try clear c1);(try clear c2);(try clear p2);(try clear c8);(try clear c9);(try clear X);(try clear aR);(try clear aS);(try clear aT);(try clear aU);(try clear aV);(try clear aW);(try clear aX);(try clear aY);(try clear aZ);(try clear Xe);skip;(try clear Kk);skip;(try clear Oq)
  obtain ⟨kq,Ud,rfl,HA,aA,Oa,Ka,Ua,HB⟩:=hcut
  cases kq with
  | zero=>exact absurd HA.out (by simp [impl_TablePut.j0])
  | succ kj3 =>
   have H:=HA.out;clear HA;simp only [impl_TablePut.j0] at H
   by_cases af:Ud=true
   ·subst af
    rw [if_pos rfl] at H;simp only [Option.some.injEq,Prod.mk.injEq] at H;obtain ⟨rfl,rfl,rfl⟩:=H;(try have:=Oc.out);(try have:=Mc.out);(try have:=Md.out);(try have:=Jd.out);have Ks:=ql_ Ua.out
    go_wp2_with (first|((with_reducible refine gbd_ 52 rfl ?_);refine ba52_3 ?_)|((with_reducible refine gst_ 32 rfl ?_);refine sa32_ ?_)|((with_reducible refine gld_ 32 rfl ?_);refine la32_ ?_))
    refine bodyPost_ret (qau_ rfl _ _ Xb 26 #[I L 0,Y none 0 0] (0,0) _ rfl Z10 Try.underlying26 rfl (by kernel_rfl)) rfl ?_;exact ⟨_,er_,by first|exact Kd.R_nil _ _ _ _ _|exact Kd.N_nil _ _ _ _ _|exact Kd.V_nil _ _ _ _ _|exact Kd.Q_nil _ _ _ _ _|exact Kd.S_nil _ _ _ _ _,pB_ HB.out⟩
   ·replace af:=Bool.eq_false_iff.mpr af
    subst af;rw [if_neg (show ¬ (false=true) by decide)] at H;obtain ⟨⟨Xs,Kr⟩,aB,H⟩:=bs_.mp H;(try dsimp only at H);have a0:=D aB;clear aB;have an:=D H;clear H;(try have:=Uc.out);(try have:=Xc.out);(try have:=Mc.out);(try have:=Oc.out);have Ju:=ql_ Oa.out;(try have:=Jd.out);(try have:=Md.out)
    go_upto_region 4 with (first|((with_reducible refine gbd_ 52 rfl ?_);refine ba52_3 ?_)|((with_reducible refine gst_ 32 rfl ?_);refine sa32_ ?_)|((with_reducible refine gld_ 32 rfl ?_);refine la32_ ?_)|((with_reducible refine qd_ (f:=26) rfl ?_);refine qk_ (some 28) rfl rfl Try.func26 (by kernel_rfl) rfl #[.agg #[I L A,Y E z.length G],.agg #[I L a,I L b,I L c,I L d,I L g,I L l,I L o,I L p,I L q,I L r,I L s,I L u,I L v,I L y]] rfl Z12 ?_;(with_reducible refine (impl_Table_find.calls kj3 A _ _ z a b c d g l o p q r s u v y Xs Kr _ ?side1 ?side2 a0.out).mono ?_);(case side1=>exact pC_ (Kd.C_below U.out HB.out));(case side2=>exact W.out);rintro e bj ⟨rfl,hb⟩;refine ⟨_,rfl,?_⟩;have n_:=an_ (qb_ (pk_ Oa.out) hb)<|an_ (qb_ (pk_ Ka.out) hb)<|an_ (qb_ (pk_ Ua.out) hb)<|D (qc_ (pB_ HB.out) hb);clear Oa Ka Ua HB;obtain ⟨Oa,Ka,Ua,HB⟩:=n_;(try clear hb)))
    (try simp only [Act.put,List.setIfInBounds_toArray,List.set_cons_zero,List.set_cons_succ])
    go_cut [36] (fun a1 wc=>∃ (kq:Nat) (Xd:Bool),a1=.bool Xd∧Aside0 (impl_TablePut.j1 kq a2 Xd A z a b c d g l o p q r s u v y=some (O,P,T))∧Aside0 (kq≤kj3)∧Aside0 (wc.heap[Jc]?=some (.cells #[I L A,(Y E z.length G)] 26 (0,0)))∧Aside0 (wc.heap[Xa]?=some (.cells #[I L a,I L b,I L c,I L d,I L g,I L l,I L o,I L p,I L q,I L r,I L s,I L u,I L v,I L y] 32 (0,0)))∧Aside0 (wc.heap[Xb]?=some (.cells #[I L 0,(Y none 0 0)] 26 (0,0)))∧Aside0 (Below w.heap.size w wc))
    case first =>
     have H:=an.out;clear an
     by_cases ag:Kr=true
     ·subst ag
      rw [if_pos rfl] at H;have H':=D H;clear H
      go_wp2_with (first|((with_reducible refine gbd_ 52 rfl ?_);refine ba52_3 ?_)|((with_reducible refine gst_ 32 rfl ?_);refine sa32_ ?_)|((with_reducible refine gld_ 32 rfl ?_);refine la32_ ?_))
      go_meet
      case rel=>exact ⟨_,(false),Z35,H',⟨by have:=aA.out;first | omega | exact Nat.le_refl _⟩,⟨pk_ Oa.out⟩,⟨pk_ Ka.out⟩,⟨pk_ Ua.out⟩,⟨pB_ HB.out⟩⟩
     ·replace ag:=Bool.eq_false_iff.mpr ag
      subst ag;rw [if_neg (show ¬ (false=true) by decide)] at H;obtain ⟨Mr,aC,H⟩:=bs_.mp H;(try dsimp only at H);have a3:=D aC;clear aC;have H':=D H;clear H;(try have:=Uc.out);(try have:=Xc.out);(try have:=Mc.out);(try have:=Oc.out);have Ma1:=ql_ Oa.out
      go_wp2_with (first|((with_reducible refine gbd_ 52 rfl ?_);refine ba52_3 ?_)|((with_reducible refine gst_ 32 rfl ?_);refine sa32_ ?_)|((with_reducible refine gld_ 32 rfl ?_);refine la32_ ?_)|(go_at_call 27;(with_reducible refine (impl_Table_isFull.calls kj3 A _ _ z Mr _ ?side1 ?side2 a3.out).mono ?_);(case side1=>exact pC_ (Kd.C_below U.out HB.out));(case side2=>exact W.out);rintro e bk ⟨rfl,hb⟩;have n_:=an_ (qb_ (pk_ Oa.out) hb)<|an_ (qb_ (pk_ Ka.out) hb)<|an_ (qb_ (pk_ Ua.out) hb)<|D (qc_ (pB_ HB.out) hb);clear Oa Ka Ua HB;obtain ⟨Oa,Ka,Ua,HB⟩:=n_;(try clear hb)))
      go_meet
      case rel=>exact ⟨_,(Mr),Z35,H',⟨by have:=aA.out;first | omega | exact Nat.le_refl _⟩,⟨pk_ Oa.out⟩,⟨pk_ Ka.out⟩,⟨pk_ Ua.out⟩,⟨pB_ HB.out⟩⟩
    case rest =>
     clear an
     (try clear c1);(try clear c2);(try clear p2);(try clear c3);(try clear c4);(try clear c8);(try clear c9);(try clear X);(try clear aR);(try clear aS);(try clear aT);(try clear aU);(try clear aV);(try clear aW);(try clear aX);(try clear bl);(try clear aY);(try clear aZ);(try clear af);(try clear bm);(try clear bn);(try clear bo);(try clear bp);(try clear bq);(try clear ag);(try clear bs);(try clear bu);(try clear Xe);skip;(try clear Kk);skip;(try clear Oq);(try clear Ks);(try clear Ju);skip;(try clear Ma1);(try clear p2)
     obtain ⟨kq,Xd,rfl,HA,bv,Oa,Ka,Ua,HB⟩:=hcut
     cases kq with
     | zero=>exact absurd HA.out (by simp [impl_TablePut.j1])
     | succ kj35 =>
      have H:=HA.out;clear HA;simp only [impl_TablePut.j1] at H
      by_cases ai:Xd=true
      ·subst ai
       rw [if_pos rfl] at H;simp only [Option.some.injEq,Prod.mk.injEq] at H;obtain ⟨rfl,rfl,rfl⟩:=H;(try have:=Oc.out);(try have:=Mc.out);(try have:=Md.out);(try have:=Jd.out);have Oc1:=ql_ Ua.out
       go_wp2_with (first|((with_reducible refine gbd_ 52 rfl ?_);refine ba52_3 ?_)|((with_reducible refine gst_ 32 rfl ?_);refine sa32_ ?_)|((with_reducible refine gld_ 32 rfl ?_);refine la32_ ?_))
       refine bodyPost_ret (qau_ rfl _ _ Xb 26 #[I L 0,Y none 0 0] (0,0) _ rfl Z10 Try.underlying26 rfl (by kernel_rfl)) rfl ?_;exact ⟨_,er_,by first|exact Kd.R_nil _ _ _ _ _|exact Kd.N_nil _ _ _ _ _|exact Kd.V_nil _ _ _ _ _|exact Kd.Q_nil _ _ _ _ _|exact Kd.S_nil _ _ _ _ _,pB_ HB.out⟩
      ·replace ai:=Bool.eq_false_iff.mpr ai
       subst ai;rw [if_neg (show ¬ (false=true) by decide)] at H;obtain ⟨⟨Ob,Jb⟩,aD,H⟩:=bs_.mp H;(try dsimp only at H);have a4:=D aD;clear aD;obtain ⟨Ja,aE,H⟩:=bs_.mp H;(try dsimp only at H);have a5:=D aE;clear aE
       by_cases aj:0≤Ja
       ·rw [if_pos aj] at H
        have bw:decide (0≤Ja)=true:=decide_eq_true aj;clear aj
        by_cases ak:Ja < (Jb.length:Int)
        ·rw [if_pos ak] at H
         have bx:decide (Ja < (Jb.length:Int))=true:=decide_eq_true ak;clear ak;obtain ⟨aF,ah⟩:∃ y_:List (S52),y_=(Jb.set (Ja:Int).toNat (⟨true,(⟨a,(⟨(⟨b,c,d,g,l⟩:S28),(⟨o,p,q,r,s⟩:S28),u,v,y⟩:S30)⟩:S32),a2⟩:S52)):=⟨_,rfl⟩
         replace H:(some (Ob,aF,0))=some (O,P,T):=by first|(rw [ah];with_reducible exact H)|(have H2_:=(Option.bind_some _ _).symm.trans H;rw [ah];with_reducible exact H2_)|(have H2_:=(Option.bind_some _ _).symm.trans H;with_reducible exact H2_)|with_reducible exact H|(rw [ah];exact H)|exact H
         have a6:=D ah;clear ah;simp only [Option.some.injEq,Prod.mk.injEq] at H;obtain ⟨rfl,rfl,rfl⟩:=H;(try have:=Uc.out);(try have:=Xc.out);(try have:=Mc.out);(try have:=Oc.out);have Kd1:=ql_ Oa.out
         try go_wp2_with (first|((with_reducible refine gbd_ 52 rfl ?_);refine ba52_3 ?_)|((with_reducible refine gst_ 32 rfl ?_);refine sa32_ ?_)|((with_reducible refine gld_ 32 rfl ?_);refine la32_ ?_)|((with_reducible refine qd_ (f:=28) rfl ?_);refine qk_ (some 39) rfl rfl Try.func28 (by kernel_rfl) rfl #[.agg #[I L A,Y E z.length G]] rfl Z12 ?_;(with_reducible refine (impl_copyTable.calls A _ _ z Ob Jb _ ?side1 ?side2 a4.out).mono ?_);(case side1=>exact pC_ (Kd.C_below U.out HB.out));(case side2=>exact W.out);rintro e bA ⟨Xd1,rfl,aG,hb⟩;refine ⟨_,rfl,?_⟩;have n_:=an_ (Kd.R_lower aG (qh_ (pB_ HB.out)))<|an_ (qb_ (pk_ Oa.out) hb)<|an_ (qb_ (pk_ Ka.out) hb)<|an_ (qb_ (pk_ Ua.out) hb)<|D (qc_ (pB_ HB.out) hb);clear Oa Ka Ua HB;obtain ⟨Ma,Oa,Ka,Ua,HB⟩:=n_;(try clear hb);(try clear aG))|((with_reducible refine qg_ (N:=10) rfl ?_);refine bx_ (N:=10) (cs:=#[I L 0,Y none 0 0]) (t:=26) ?_;intro Mb hg a7 hbox hb;have n_:=an_ (Kd.R_below (pR_ Ma.out) hb)<|an_ (qb_ (pk_ Oa.out) hb)<|an_ (qb_ (pk_ Ka.out) hb)<|an_ (qb_ (pk_ Ua.out) hb)<|an_ (qc_ (pB_ HB.out) hb)<|an_ (hbox)<|an_ (bg_ hg (pB_ HB.out):w.heap.size≤Mb)<|an_ (bg_ hg (pB_ HB.out):w.heap.size≤Mb)<|an_ (nl_ hg (pk_ Oa.out):Jc≠Mb)<|an_ (ng_ hg (pk_ Oa.out):Mb≠Jc)<|an_ (nl_ hg (pk_ Ka.out):Xa≠Mb)<|an_ (ng_ hg (pk_ Ka.out):Mb≠Xa)<|an_ (nl_ hg (pk_ Ua.out):Xb≠Mb)<|D (by rw [hg];exact Nat.ne_of_gt (qz_ (pk_ Ua.out)):Mb≠Xb);clear Ma Oa Ka Ua HB;obtain ⟨Ma,Oa,Ka,Ua,HB,Kb,Je1,Jb1,Me,Kb1,Oe,Mb1,Ue,Ob1⟩:=n_;clear hb hbox hg;(try have:=Kb1.out);(try have:=Me.out);(try have:=Mb1.out);(try have:=Oe.out);(try have:=Ob1.out);(try have:=Ue.out);have Ke1:=ql_ Kb.out;obtain ⟨Kc,Ub,a8⟩:=Kd.R_slice Ma.out;subst a8))
         obtain ⟨J,hq_⟩:∃ W_,W_=((a7.setCell ⟨Mb,0,none⟩ (I L Ob)).setCell ⟨Mb,1,none⟩ (Y Kc Jb.length Ub)):=⟨_,rfl⟩;have Z:Aside0 (Kd.R k52 52 J w.heap.size (fun _=>True) (Y Kc Jb.length Ub) Jb):=⟨by rw [hq_];exact rM_ (Kd.R_types Ma.out Kb.out (by decide)) (fun _ hk=>trivial)⟩;have aa:Aside0 (J.heap[Jc]?=some (.cells #[I L A,Y E z.length G] 26 (0,0))):=⟨by rw [hq_];exact pP_ Oa.out⟩;have ab:Aside0 (J.heap[Xa]?=some (.cells #[I L a,I L b,I L c,I L d,I L g,I L l,I L o,I L p,I L q,I L r,I L s,I L u,I L v,I L y] 32 (0,0))):=⟨by rw [hq_];exact pP_ Ka.out⟩;have ac:Aside0 (J.heap[Xb]?=some (.cells #[I L 0,Y none 0 0] 26 (0,0))):=⟨by rw [hq_];exact pP_ Ua.out⟩;have ad:Aside0 (J.heap[Mb]?=some (.cells #[I L Ob,Y Kc Jb.length Ub] 26 (0,0))):=⟨by rw [hq_];exact pP_ Kb.out⟩;have ae:Aside0 (Below w.heap.size w J):=⟨by rw [hq_];exact pB_ HB.out⟩;(try clear Ma);(try clear Oa);(try clear Ka);(try clear Ua);(try clear Kb);(try clear HB);(try rw [←hq_]);clear hq_;have Ma:=Z;have Oa:=aa;have Ka:=ab;have Ua:=ac;have Kb:=ad;have HB:=ae;clear Z aa ab ac ad ae
         have n_:=an_ (Kd.R_drew Ma.out)<|an_ (qt_ Oa.out)<|an_ (qt_ Ka.out)<|an_ (qt_ Ua.out)<|an_ (qt_ Kb.out)<|D (qr_ HB.out)
         clear Ma Oa Ka Ua Kb HB;obtain ⟨Ma,Oa,Ka,Ua,Kb,HB⟩:=n_;refine qaw_ (n:=10) (S:=fun w'=>w'.cell? ⟨Mb,0,none⟩=some (I L Ob)∧w'.cell? ⟨Mb,1,none⟩=some (Y Kc Jb.length Ub)∧Bv w' Xa #[I L a,I L b,I L c,I L d,I L g,I L l,I L o,I L p,I L q,I L r,I L s,I L u,I L v,I L y]) (ds:=[9]) (bz 10 0) (by kernel_rfl) rfl (by kernel_rfl) ⟨bc_ Kb.out 0,bc_ Kb.out 1,bv_ Ka.out⟩ (fun hHeld=>?_);refine q6_ impl_TablePut.tab7 impl_TablePut.bits7 (fun HT_ HW_=>?_);generalize J.drew=bB at Ma Oa Ka Ua Kb HB hHeld ⊢;refine pb_ 0 ?_;refine pb_ 6 ?_;refine tb_ 1 rfl rfl hHeld (by rintro w' ⟨s0,s1,s2⟩;go_simp;with_reducible rfl) ?_;refine tb_ 2 rfl rfl hHeld (by rintro w' ⟨s0,s1,s2⟩;go_simp;with_reducible rfl) ?_;refine tb_ 3 rfl rfl hHeld (by first|exact (fun _ h_=>lv32_ rfl rfl h_.2.2)|(rintro w' ⟨s0,s1,s2⟩;go_simp;with_reducible rfl)) ?_;refine tb_ 5 rfl rfl hHeld (by first|exact (fun _ h_=>lv32_ rfl rfl h_.2.2)|(rintro w' ⟨s0,s1,s2⟩;go_simp;with_reducible rfl)) ?_;refine pb_ 7 ?_;refine oa_ 4 44 10 255 HT_ (fun K hK=>?_);refine goes_ Try.func29 (by kernel_rfl) rfl #[.agg #[I L Ob,Y Kc Jb.length Ub],.agg #[I L a,I L b,I L c,I L d,I L g,I L l,I L o,I L p,I L q,I L r,I L s,I L u,I L v,I L y]] (by rfl) rfl rfl Z12 ?_;with_reducible refine (impl_Table_probe.calls kj35 Ob _ _ Jb a b c d g l o p q r s u v y Ja _ ?side1 ?side2 a5.out).mono ?_
         (case side1=>exact pC_ ((Kd.R_reads' Ma.out).2.2));(case side2=>exact (Kd.R_reads' Ma.out).2.1);rintro e M ⟨rfl,hb⟩;refine ⟨_,rfl,?_⟩
         have n_:=an_ (Kd.R_below (pR_ Ma.out) hb)<|an_ (qb_ (pk_ Oa.out) hb)<|an_ (qb_ (pk_ Ka.out) hb)<|an_ (qb_ (pk_ Ua.out) hb)<|an_ (qb_ (pk_ Kb.out) hb)<|D (qc_ (pB_ HB.out) hb)
         clear Ma Oa Ka Ua Kb HB;obtain ⟨Ma,Oa,Ka,Ua,Kb,HB⟩:=n_;have ao:0≤(Ja:Int):=od_ Z22;have ap:(Ja:Int) < ((Jb.length:Int):Int):=od_ Z22;obtain ⟨go57,Xe1,aH,Or,gl57,cl57,HG57⟩:=Kd.R_form Ma.out (by omega);(first|cases aH|(injection aH with ea_ en_ ec_;(first|subst ea_|(injection ea_ with ea_;subst ea_));subst ec_;clear en_));have B:=D Or;have GG57:=D HG57;clear Or gl57 HG57;obtain ⟨ce57,a9,aI,aJ,aK⟩:=Kd.R_elem Ma.out z52 (Ja:Int) ao ap;obtain rfl:=q7_ aI;obtain ⟨bC,bD,bE,bF,bG,bH,bI,bJ,bK,bL,bM,bN,bO,bP,bQ,bR,bS,bT,bU,bV,bW,bX,bY,bZ,b0,b1,b2,b3,b4,b5,b6,b7⟩:=es52_ (m:=(Ja:Int).toNat * 16) (x:=(qa_ Jb Ja)) aJ aK;clear a9 aJ aK aI;replace ao:=eq_true ao;replace ap:=eq_true ap;obtain ⟨ce71,aL,aM,aN,ba⟩:=Kd.R_elem Ma.out z52 (Ja:Int) (od_ Z22) (by have h_:(Ja:Int) < ((Jb.length:Int):Int):=od_ Z22;first|exact h_|(have e_:=(Kd.R_reads' Ma.out).1;omega)|simpa using h_);obtain rfl:=q7_ aM;have HP71:=(Kd.R_seg Ma.out (Ja:Int) (od_ Z22) (by have h_:(Ja:Int) < ((Jb.length:Int):Int):=od_ Z22;first|exact h_|(have e_:=(Kd.R_reads' Ma.out).1;omega)|simpa using h_) (seg:=[.bool true,I L a,I L b,I L c,I L d,I L g,I L l,I L o,I L p,I L q,I L r,I L s,I L u,I L v,I L y,I L a2]) (j:=0) aL aN (show 16≤16 from by decide) (x':=(⟨true,(⟨a,(⟨(⟨b,c,d,g,l⟩:S28),(⟨o,p,q,r,s⟩:S28),u,v,y⟩:S30)⟩:S32),a2⟩:S52)) (k52_mkM _ _ _ (⟨true,(⟨a,(⟨(⟨b,c,d,g,l⟩:S28),(⟨o,p,q,r,s⟩:S28),u,v,y⟩:S30)⟩:S32),a2⟩:S52) ) (fun _ hk=>hk)).1;rw [← a6.out] at HP71;have HQ71:=D HP71;clear aL aN ba aM HP71;refine hK.out _ _ ⟨bc_ Kb.out 0,bc_ Kb.out 1,bv_ Ka.out⟩ (fun hHeld=>?_);clear hK K;refine nx_ (N:=some 44) ?_;refine pb_ 8 ?_;refine last_ (i:=9) (N:=none) (bz 10 1023) rfl rfl (one_of HT_.out (by kernel_rfl)) (by decide) (fun K hK=>?_);refine skip_ (w1:=?_) (by rfl) rfl ?_ ?_;rotate_left
         ·go_simp
          rfl
         refine hK.out _ _ ?_;clear hK K;refine done_ (qaq_ HT_.out (by kernel_rfl)) ?_;have Z:Aside0 (Kd.R k52 52 ((((((((((((((((M.setCell ⟨go57,(Ja:Int).toNat * 16,none⟩ (.bool true)).setCell ⟨go57,(Ja:Int).toNat * 16+1,none⟩ (I L a)).setCell ⟨go57,(Ja:Int).toNat * 16+2,none⟩ (I L b)).setCell ⟨go57,(Ja:Int).toNat * 16+3,none⟩ (I L c)).setCell ⟨go57,(Ja:Int).toNat * 16+4,none⟩ (I L d)).setCell ⟨go57,(Ja:Int).toNat * 16+5,none⟩ (I L g)).setCell ⟨go57,(Ja:Int).toNat * 16+6,none⟩ (I L l)).setCell ⟨go57,(Ja:Int).toNat * 16+7,none⟩ (I L o)).setCell ⟨go57,(Ja:Int).toNat * 16+8,none⟩ (I L p)).setCell ⟨go57,(Ja:Int).toNat * 16+9,none⟩ (I L q)).setCell ⟨go57,(Ja:Int).toNat * 16+10,none⟩ (I L r)).setCell ⟨go57,(Ja:Int).toNat * 16+11,none⟩ (I L s)).setCell ⟨go57,(Ja:Int).toNat * 16+12,none⟩ (I L u)).setCell ⟨go57,(Ja:Int).toNat * 16+13,none⟩ (I L v)).setCell ⟨go57,(Ja:Int).toNat * 16+14,none⟩ (I L y)).setCell ⟨go57,(Ja:Int).toNat * 16+15,none⟩ (I L a2)) w.heap.size (fun _=>True) (Y (some ⟨go57,0,none⟩) Jb.length Ub) aF):=⟨pR_ HQ71.out⟩;have aa:Aside0 (((((((((((((((((M.setCell ⟨go57,(Ja:Int).toNat * 16,none⟩ (.bool true)).setCell ⟨go57,(Ja:Int).toNat * 16+1,none⟩ (I L a)).setCell ⟨go57,(Ja:Int).toNat * 16+2,none⟩ (I L b)).setCell ⟨go57,(Ja:Int).toNat * 16+3,none⟩ (I L c)).setCell ⟨go57,(Ja:Int).toNat * 16+4,none⟩ (I L d)).setCell ⟨go57,(Ja:Int).toNat * 16+5,none⟩ (I L g)).setCell ⟨go57,(Ja:Int).toNat * 16+6,none⟩ (I L l)).setCell ⟨go57,(Ja:Int).toNat * 16+7,none⟩ (I L o)).setCell ⟨go57,(Ja:Int).toNat * 16+8,none⟩ (I L p)).setCell ⟨go57,(Ja:Int).toNat * 16+9,none⟩ (I L q)).setCell ⟨go57,(Ja:Int).toNat * 16+10,none⟩ (I L r)).setCell ⟨go57,(Ja:Int).toNat * 16+11,none⟩ (I L s)).setCell ⟨go57,(Ja:Int).toNat * 16+12,none⟩ (I L u)).setCell ⟨go57,(Ja:Int).toNat * 16+13,none⟩ (I L v)).setCell ⟨go57,(Ja:Int).toNat * 16+14,none⟩ (I L y)).setCell ⟨go57,(Ja:Int).toNat * 16+15,none⟩ (I L a2)).heap[Jc]?=some (.cells #[I L A,Y E z.length G] 26 (0,0))):=⟨by refine pk_ ?_;refine qf_ ?_ Z39 _;refine pk_ ?_;refine qf_ ?_ Z39 _;refine pk_ ?_;refine qf_ ?_ Z39 _;refine pk_ ?_;refine qf_ ?_ Z39 _;refine pk_ ?_;refine qf_ ?_ Z39 _;refine pk_ ?_;refine qf_ ?_ Z39 _;refine pk_ ?_;refine qf_ ?_ Z39 _;refine pk_ ?_;refine qf_ ?_ Z39 _;refine pk_ ?_;refine qf_ ?_ Z39 _;refine pk_ ?_;refine qf_ ?_ Z39 _;refine pk_ ?_;refine qf_ ?_ Z39 _;refine pk_ ?_;refine qf_ ?_ Z39 _;refine pk_ ?_;refine qf_ ?_ Z39 _;refine pk_ ?_;refine qf_ ?_ Z39 _;refine pk_ ?_;refine qf_ ?_ Z39 _;refine pk_ ?_;refine qf_ ?_ Z39 _;refine pk_ ?_;exact Oa.out⟩;have ab:Aside0 (((((((((((((((((M.setCell ⟨go57,(Ja:Int).toNat * 16,none⟩ (.bool true)).setCell ⟨go57,(Ja:Int).toNat * 16+1,none⟩ (I L a)).setCell ⟨go57,(Ja:Int).toNat * 16+2,none⟩ (I L b)).setCell ⟨go57,(Ja:Int).toNat * 16+3,none⟩ (I L c)).setCell ⟨go57,(Ja:Int).toNat * 16+4,none⟩ (I L d)).setCell ⟨go57,(Ja:Int).toNat * 16+5,none⟩ (I L g)).setCell ⟨go57,(Ja:Int).toNat * 16+6,none⟩ (I L l)).setCell ⟨go57,(Ja:Int).toNat * 16+7,none⟩ (I L o)).setCell ⟨go57,(Ja:Int).toNat * 16+8,none⟩ (I L p)).setCell ⟨go57,(Ja:Int).toNat * 16+9,none⟩ (I L q)).setCell ⟨go57,(Ja:Int).toNat * 16+10,none⟩ (I L r)).setCell ⟨go57,(Ja:Int).toNat * 16+11,none⟩ (I L s)).setCell ⟨go57,(Ja:Int).toNat * 16+12,none⟩ (I L u)).setCell ⟨go57,(Ja:Int).toNat * 16+13,none⟩ (I L v)).setCell ⟨go57,(Ja:Int).toNat * 16+14,none⟩ (I L y)).setCell ⟨go57,(Ja:Int).toNat * 16+15,none⟩ (I L a2)).heap[Xa]?=some (.cells #[I L a,I L b,I L c,I L d,I L g,I L l,I L o,I L p,I L q,I L r,I L s,I L u,I L v,I L y] 32 (0,0))):=⟨by refine pk_ ?_;refine qf_ ?_ Z40 _;refine pk_ ?_;refine qf_ ?_ Z40 _;refine pk_ ?_;refine qf_ ?_ Z40 _;refine pk_ ?_;refine qf_ ?_ Z40 _;refine pk_ ?_;refine qf_ ?_ Z40 _;refine pk_ ?_;refine qf_ ?_ Z40 _;refine pk_ ?_;refine qf_ ?_ Z40 _;refine pk_ ?_;refine qf_ ?_ Z40 _;refine pk_ ?_;refine qf_ ?_ Z40 _;refine pk_ ?_;refine qf_ ?_ Z40 _;refine pk_ ?_;refine qf_ ?_ Z40 _;refine pk_ ?_;refine qf_ ?_ Z40 _;refine pk_ ?_;refine qf_ ?_ Z40 _;refine pk_ ?_;refine qf_ ?_ Z40 _;refine pk_ ?_;refine qf_ ?_ Z40 _;refine pk_ ?_;refine qf_ ?_ Z40 _;refine pk_ ?_;exact Ka.out⟩
         have ac:Aside0 (((((((((((((((((M.setCell ⟨go57,(Ja:Int).toNat * 16,none⟩ (.bool true)).setCell ⟨go57,(Ja:Int).toNat * 16+1,none⟩ (I L a)).setCell ⟨go57,(Ja:Int).toNat * 16+2,none⟩ (I L b)).setCell ⟨go57,(Ja:Int).toNat * 16+3,none⟩ (I L c)).setCell ⟨go57,(Ja:Int).toNat * 16+4,none⟩ (I L d)).setCell ⟨go57,(Ja:Int).toNat * 16+5,none⟩ (I L g)).setCell ⟨go57,(Ja:Int).toNat * 16+6,none⟩ (I L l)).setCell ⟨go57,(Ja:Int).toNat * 16+7,none⟩ (I L o)).setCell ⟨go57,(Ja:Int).toNat * 16+8,none⟩ (I L p)).setCell ⟨go57,(Ja:Int).toNat * 16+9,none⟩ (I L q)).setCell ⟨go57,(Ja:Int).toNat * 16+10,none⟩ (I L r)).setCell ⟨go57,(Ja:Int).toNat * 16+11,none⟩ (I L s)).setCell ⟨go57,(Ja:Int).toNat * 16+12,none⟩ (I L u)).setCell ⟨go57,(Ja:Int).toNat * 16+13,none⟩ (I L v)).setCell ⟨go57,(Ja:Int).toNat * 16+14,none⟩ (I L y)).setCell ⟨go57,(Ja:Int).toNat * 16+15,none⟩ (I L a2)).heap[Xb]?=some (.cells #[I L 0,Y none 0 0] 26 (0,0))):=⟨by refine pk_ ?_;refine qf_ ?_ Z41 _;refine pk_ ?_;refine qf_ ?_ Z41 _;refine pk_ ?_;refine qf_ ?_ Z41 _;refine pk_ ?_;refine qf_ ?_ Z41 _;refine pk_ ?_;refine qf_ ?_ Z41 _;refine pk_ ?_;refine qf_ ?_ Z41 _;refine pk_ ?_;refine qf_ ?_ Z41 _;refine pk_ ?_;refine qf_ ?_ Z41 _;refine pk_ ?_;refine qf_ ?_ Z41 _;refine pk_ ?_;refine qf_ ?_ Z41 _;refine pk_ ?_;refine qf_ ?_ Z41 _;refine pk_ ?_;refine qf_ ?_ Z41 _;refine pk_ ?_;refine qf_ ?_ Z41 _;refine pk_ ?_;refine qf_ ?_ Z41 _;refine pk_ ?_;refine qf_ ?_ Z41 _;refine pk_ ?_;refine qf_ ?_ Z41 _;refine pk_ ?_;exact Ua.out⟩;have ad:Aside0 (((((((((((((((((M.setCell ⟨go57,(Ja:Int).toNat * 16,none⟩ (.bool true)).setCell ⟨go57,(Ja:Int).toNat * 16+1,none⟩ (I L a)).setCell ⟨go57,(Ja:Int).toNat * 16+2,none⟩ (I L b)).setCell ⟨go57,(Ja:Int).toNat * 16+3,none⟩ (I L c)).setCell ⟨go57,(Ja:Int).toNat * 16+4,none⟩ (I L d)).setCell ⟨go57,(Ja:Int).toNat * 16+5,none⟩ (I L g)).setCell ⟨go57,(Ja:Int).toNat * 16+6,none⟩ (I L l)).setCell ⟨go57,(Ja:Int).toNat * 16+7,none⟩ (I L o)).setCell ⟨go57,(Ja:Int).toNat * 16+8,none⟩ (I L p)).setCell ⟨go57,(Ja:Int).toNat * 16+9,none⟩ (I L q)).setCell ⟨go57,(Ja:Int).toNat * 16+10,none⟩ (I L r)).setCell ⟨go57,(Ja:Int).toNat * 16+11,none⟩ (I L s)).setCell ⟨go57,(Ja:Int).toNat * 16+12,none⟩ (I L u)).setCell ⟨go57,(Ja:Int).toNat * 16+13,none⟩ (I L v)).setCell ⟨go57,(Ja:Int).toNat * 16+14,none⟩ (I L y)).setCell ⟨go57,(Ja:Int).toNat * 16+15,none⟩ (I L a2)).heap[Mb]?=some (.cells #[I L Ob,Y (some ⟨go57,0,none⟩) Jb.length Ub] 26 (0,0))):=⟨by refine pk_ ?_;refine qf_ ?_ Z42 _;refine pk_ ?_;refine qf_ ?_ Z42 _;refine pk_ ?_;refine qf_ ?_ Z42 _;refine pk_ ?_;refine qf_ ?_ Z42 _;refine pk_ ?_;refine qf_ ?_ Z42 _;refine pk_ ?_;refine qf_ ?_ Z42 _;refine pk_ ?_;refine qf_ ?_ Z42 _;refine pk_ ?_;refine qf_ ?_ Z42 _;refine pk_ ?_;refine qf_ ?_ Z42 _;refine pk_ ?_;refine qf_ ?_ Z42 _;refine pk_ ?_;refine qf_ ?_ Z42 _;refine pk_ ?_;refine qf_ ?_ Z42 _;refine pk_ ?_;refine qf_ ?_ Z42 _;refine pk_ ?_;refine qf_ ?_ Z42 _;refine pk_ ?_;refine qf_ ?_ Z42 _;refine pk_ ?_;refine qf_ ?_ Z42 _;refine pk_ ?_;exact Kb.out⟩;have ae:Aside0 (Below w.heap.size w ((((((((((((((((M.setCell ⟨go57,(Ja:Int).toNat * 16,none⟩ (.bool true)).setCell ⟨go57,(Ja:Int).toNat * 16+1,none⟩ (I L a)).setCell ⟨go57,(Ja:Int).toNat * 16+2,none⟩ (I L b)).setCell ⟨go57,(Ja:Int).toNat * 16+3,none⟩ (I L c)).setCell ⟨go57,(Ja:Int).toNat * 16+4,none⟩ (I L d)).setCell ⟨go57,(Ja:Int).toNat * 16+5,none⟩ (I L g)).setCell ⟨go57,(Ja:Int).toNat * 16+6,none⟩ (I L l)).setCell ⟨go57,(Ja:Int).toNat * 16+7,none⟩ (I L o)).setCell ⟨go57,(Ja:Int).toNat * 16+8,none⟩ (I L p)).setCell ⟨go57,(Ja:Int).toNat * 16+9,none⟩ (I L q)).setCell ⟨go57,(Ja:Int).toNat * 16+10,none⟩ (I L r)).setCell ⟨go57,(Ja:Int).toNat * 16+11,none⟩ (I L s)).setCell ⟨go57,(Ja:Int).toNat * 16+12,none⟩ (I L u)).setCell ⟨go57,(Ja:Int).toNat * 16+13,none⟩ (I L v)).setCell ⟨go57,(Ja:Int).toNat * 16+14,none⟩ (I L y)).setCell ⟨go57,(Ja:Int).toNat * 16+15,none⟩ (I L a2))):=⟨by repeat (first|(with_reducible first|exact HB.out|apply q0_|apply q2_|apply qr_|refine qe_ ?_ B.out|refine qe_ ?_ B.out|refine qe_ ?_ B.out|refine qe_ ?_ B.out|refine qe_ ?_ B.out|refine qe_ ?_ B.out|refine qe_ ?_ B.out|refine qe_ ?_ B.out|refine qe_ ?_ B.out|refine qe_ ?_ B.out|refine qe_ ?_ B.out|refine qe_ ?_ B.out|refine qe_ ?_ B.out|refine qe_ ?_ B.out|refine qe_ ?_ B.out|refine qe_ ?_ B.out|refine qe_ ?_ Ur.out|refine qe_ ?_ Xr.out|refine qe_ ?_ Js.out|refine qe_ ?_ Jb1.out)|exact HB.out)⟩
         (try clear Ma);(try clear Oa);(try clear Ka);(try clear Ua);(try clear Kb);(try clear HB);generalize ((((((((((((((((M.setCell ⟨go57,(Ja:Int).toNat * 16,none⟩ (.bool true)).setCell ⟨go57,(Ja:Int).toNat * 16+1,none⟩ (I L a)).setCell ⟨go57,(Ja:Int).toNat * 16+2,none⟩ (I L b)).setCell ⟨go57,(Ja:Int).toNat * 16+3,none⟩ (I L c)).setCell ⟨go57,(Ja:Int).toNat * 16+4,none⟩ (I L d)).setCell ⟨go57,(Ja:Int).toNat * 16+5,none⟩ (I L g)).setCell ⟨go57,(Ja:Int).toNat * 16+6,none⟩ (I L l)).setCell ⟨go57,(Ja:Int).toNat * 16+7,none⟩ (I L o)).setCell ⟨go57,(Ja:Int).toNat * 16+8,none⟩ (I L p)).setCell ⟨go57,(Ja:Int).toNat * 16+9,none⟩ (I L q)).setCell ⟨go57,(Ja:Int).toNat * 16+10,none⟩ (I L r)).setCell ⟨go57,(Ja:Int).toNat * 16+11,none⟩ (I L s)).setCell ⟨go57,(Ja:Int).toNat * 16+12,none⟩ (I L u)).setCell ⟨go57,(Ja:Int).toNat * 16+13,none⟩ (I L v)).setCell ⟨go57,(Ja:Int).toNat * 16+14,none⟩ (I L y)).setCell ⟨go57,(Ja:Int).toNat * 16+15,none⟩ (I L a2))=b8 at Z aa ab ac ad ae ⊢;have Ma:=Z;have Oa:=aa;have Ka:=ab;have Ua:=ac;have Kb:=ad;have HB:=ae;clear Z aa ab ac ad ae;have Jf1:=ql_ Kb.out;(try have:=Md.out);(try have:=Jd.out);have Uf1:=ql_ Ua.out
         try go_wp2_with (first|((with_reducible refine gbd_ 52 rfl ?_);refine ba52_3 ?_)|((with_reducible refine gst_ 32 rfl ?_);refine sa32_ ?_)|((with_reducible refine gld_ 32 rfl ?_);refine la32_ ?_))
         refine bodyPost_ret (qau_ rfl _ _ Xb 26 #[I L Ob,Y (some ⟨go57,0,none⟩) Jb.length Ub] (0,0) _ rfl Z7 Try.underlying26 rfl (by kernel_rfl)) rfl ?_;exact ⟨_,er_,by (with_reducible repeat (first|apply Kd.R_alloc|apply Kd.R_drewN|apply Kd.R_drew));exact Kd.R_mono (fr_ (fr_ (Kd.R_types Ma.out Ua.out (by decide)) 0 (I L Ob)) 1 (Y (some ⟨go57,0,none⟩) Jb.length Ub)) (fun _ hk=>trivial),pB_ HB.out⟩
        ·rw [if_neg ak] at H
         exact absurd H (by simp)
       ·rw [if_neg aj] at H
        exact absurd H (by simp)
def impl_TableFind.f (k:Nat) (a:Int) (b:List (S52)) (c d e g h i j l m n o p q r:Int):Option (Int×Bool):=(impl_TableOk.f k a b).bind fun Ub1=>(if Ub1=true then ((impl_FlowKeyOk.f k c d e g h i j l m n o p q r).bind fun Xb1=>(if Xb1=true then ((impl_Table_find.f k a b c d e g h i j l m n o p q r).bind fun s=>(some (s.1,s.2))) else (some (0,false)))) else (some (0,false)))
theorem impl_TableFind.calls (k:Nat) (d:Int) (A:Option Addr) (B:Nat) (b:List (S52)) (g i j l m n o p q r s u v x M:Int) (O:Bool) (w:World) (W:Kd.C k52 w A b.length b) (X:b.length≤B) (h:impl_TableFind.f k d b g i j l m n o p q r s u v x=some (M,O)) :
  Calls Try.prog 9 #[.agg #[I L d,Y A b.length B],.agg #[I L g,I L i,I L j,I L l,I L m,I L n,I L o,I L p,I L q,I L r,I L s,I L u,I L v,I L x]] w fun e w'=>e=.returned (.tuple #[I L M,.bool O])∧Below w.heap.size w w':=by
 have hu26:=Try.underlying26
 have hu32:=Try.underlying32
 have P:=D W
 have T:=D X
 clear W X
 have HB:=D (Below.refl w.heap.size w)
 have H:((impl_TableOk.f k d b).bind fun U=>(if U=true then ((impl_FlowKeyOk.f k g i j l m n o p q r s u v x).bind fun E=>(if E=true then ((impl_Table_find.f k d b g i j l m n o p q r s u v x).bind fun Z=>(some (Z.1,Z.2))) else (some (0,false)))) else (some (0,false))))=some (M,O):=h
 clear h
 obtain ⟨U,aa,H⟩:=bs_.mp H
 (try dsimp only at H)
 have A3:=D aa
 clear aa
 by_cases c4:U=true
 ·subst c4
  rw [if_pos rfl] at H;obtain ⟨E,ac,H⟩:=bs_.mp H;(try dsimp only at H);have A5:=D ac;clear ac;have ad:=D H;clear H;go_enter Try.func9,Try.ntmps9
  go_upto_if 13 with (first|((with_reducible refine gst_ 32 rfl ?_);refine sa32_ ?_)|((with_reducible refine gld_ 32 rfl ?_);refine la32_ ?_)|((with_reducible refine qg_ (N:=2) rfl ?_);refine bx_ (N:=2) (cs:=#[I L d,Y A b.length B]) (t:=26) ?_;intro y hg w7 hbox hb;have n_:=an_ (qc_ (pB_ HB.out) hb)<|an_ (hbox)<|an_ (bg_ hg (pB_ HB.out):w.heap.size≤y)<|D (bg_ hg (pB_ HB.out):w.heap.size≤y);clear HB;obtain ⟨HB,a,ag,ah⟩:=n_;clear hb hbox hg)|((with_reducible refine qg_ (N:=3) rfl ?_);refine bx_ (N:=3) (cs:=#[I L g,I L i,I L j,I L l,I L m,I L n,I L o,I L p,I L q,I L r,I L s,I L u,I L v,I L x]) (t:=32) ?_;intro z hg w8 hbox hb;have n_:=an_ (qb_ (pk_ a.out) hb)<|an_ (qc_ (pB_ HB.out) hb)<|an_ (hbox)<|an_ (bg_ hg (pB_ HB.out):w.heap.size≤z)<|an_ (bg_ hg (pB_ HB.out):w.heap.size≤z)<|an_ (nl_ hg (pk_ a.out):y≠z)<|D (by rw [hg];exact Nat.ne_of_gt (qz_ (pk_ a.out)):z≠y);clear a HB;obtain ⟨a,HB,c,ai,aj,G,J⟩:=n_;clear hb hbox hg;(try have:=G.out);(try have:=J.out);have ap:=ql_ a.out)|((with_reducible refine qd_ (f:=23) rfl ?_);refine qk_ (some 7) rfl rfl Try.func23 (by kernel_rfl) rfl #[.agg #[I L d,Y A b.length B]] rfl Z12 ?_;(with_reducible refine (impl_TableOk.calls k d _ _ b true _ ?side1 ?side2 A3.out).mono ?_);(case side1=>exact pC_ (Kd.C_below P.out HB.out));(case side2=>exact T.out);rintro e aq ⟨rfl,hb⟩;refine ⟨_,rfl,?_⟩;have n_:=an_ (qb_ (pk_ a.out) hb)<|an_ (qb_ (pk_ c.out) hb)<|D (qc_ (pB_ HB.out) hb);clear a c HB;obtain ⟨a,c,HB⟩:=n_;(try clear hb))|(go_at_call 24;(with_reducible refine (impl_FlowKeyOk.calls k g i j l m n o p q r s u v x E _ A5.out).mono ?_);rintro e ar ⟨rfl,hb⟩;have n_:=an_ (qb_ (pk_ a.out) hb)<|an_ (qb_ (pk_ c.out) hb)<|D (qc_ (pB_ HB.out) hb);clear a c HB;obtain ⟨a,c,HB⟩:=n_;(try clear hb)))
  have H:=ad.out;clear ad
  by_cases K:E=true
  ·subst K
   rw [if_pos rfl] at H;obtain ⟨⟨ak,al⟩,ae,H⟩:=bs_.mp H;(try dsimp only at H);have am:=D ae;clear ae;simp only [Option.some.injEq,Prod.mk.injEq] at H;obtain ⟨rfl,rfl⟩:=H;(try have:=G.out);(try have:=J.out);have au:=ql_ a.out
   go_wp2_with (first|((with_reducible refine gst_ 32 rfl ?_);refine sa32_ ?_)|((with_reducible refine gld_ 32 rfl ?_);refine la32_ ?_)|((with_reducible refine qd_ (f:=26) rfl ?_);refine qk_ (some 16) rfl rfl Try.func26 (by kernel_rfl) rfl #[.agg #[I L d,Y A b.length B],.agg #[I L g,I L i,I L j,I L l,I L m,I L n,I L o,I L p,I L q,I L r,I L s,I L u,I L v,I L x]] rfl Z12 ?_;(with_reducible refine (impl_Table_find.calls k d _ _ b g i j l m n o p q r s u v x ak al _ ?side1 ?side2 am.out).mono ?_);(case side1=>exact pC_ (Kd.C_below P.out HB.out));(case side2=>exact T.out);rintro e av ⟨rfl,hb⟩;refine ⟨_,rfl,?_⟩;have n_:=an_ (qb_ (pk_ a.out) hb)<|an_ (qb_ (pk_ c.out) hb)<|D (qc_ (pB_ HB.out) hb);clear a c HB;obtain ⟨a,c,HB⟩:=n_;(try clear hb)))
   go_ret2;exact ⟨er_,pB_ HB.out⟩
  ·replace K:=Bool.eq_false_iff.mpr K
   subst K;rw [if_neg (show ¬ (false=true) by decide)] at H;simp only [Option.some.injEq,Prod.mk.injEq] at H;obtain ⟨rfl,rfl⟩:=H
   go_wp2_with (first|((with_reducible refine gst_ 32 rfl ?_);refine sa32_ ?_)|((with_reducible refine gld_ 32 rfl ?_);refine la32_ ?_))
   go_ret2;exact ⟨er_,pB_ HB.out⟩
 ·replace c4:=Bool.eq_false_iff.mpr c4
  subst c4;rw [if_neg (show ¬ (false=true) by decide)] at H;simp only [Option.some.injEq,Prod.mk.injEq] at H;obtain ⟨rfl,rfl⟩:=H;go_enter Try.func9,Try.ntmps9
  go_wp2_with (first|((with_reducible refine gst_ 32 rfl ?_);refine sa32_ ?_)|((with_reducible refine gld_ 32 rfl ?_);refine la32_ ?_)|((with_reducible refine qg_ (N:=2) rfl ?_);refine bx_ (N:=2) (cs:=#[I L d,Y A b.length B]) (t:=26) ?_;intro y hg aw hbox hb;have n_:=an_ (qc_ (pB_ HB.out) hb)<|an_ (hbox)<|an_ (bg_ hg (pB_ HB.out):w.heap.size≤y)<|D (bg_ hg (pB_ HB.out):w.heap.size≤y);clear HB;obtain ⟨HB,a,ag,ah⟩:=n_;clear hb hbox hg)|((with_reducible refine qg_ (N:=3) rfl ?_);refine bx_ (N:=3) (cs:=#[I L g,I L i,I L j,I L l,I L m,I L n,I L o,I L p,I L q,I L r,I L s,I L u,I L v,I L x]) (t:=32) ?_;intro z hg ax hbox hb;have n_:=an_ (qb_ (pk_ a.out) hb)<|an_ (qc_ (pB_ HB.out) hb)<|an_ (hbox)<|an_ (bg_ hg (pB_ HB.out):w.heap.size≤z)<|an_ (bg_ hg (pB_ HB.out):w.heap.size≤z)<|an_ (nl_ hg (pk_ a.out):y≠z)<|D (by rw [hg];exact Nat.ne_of_gt (qz_ (pk_ a.out)):z≠y);clear a HB;obtain ⟨a,HB,c,ai,aj,G,J⟩:=n_;clear hb hbox hg;(try have:=G.out);(try have:=J.out);have ay:=ql_ a.out)|((with_reducible refine qd_ (f:=23) rfl ?_);refine qk_ (some 7) rfl rfl Try.func23 (by kernel_rfl) rfl #[.agg #[I L d,Y A b.length B]] rfl Z12 ?_;(with_reducible refine (impl_TableOk.calls k d _ _ b false _ ?side1 ?side2 A3.out).mono ?_);(case side1=>exact pC_ (Kd.C_below P.out HB.out));(case side2=>exact T.out);rintro e az ⟨rfl,hb⟩;refine ⟨_,rfl,?_⟩;have n_:=an_ (qb_ (pk_ a.out) hb)<|an_ (qb_ (pk_ c.out) hb)<|D (qc_ (pB_ HB.out) hb);clear a c HB;obtain ⟨a,c,HB⟩:=n_;(try clear hb)))
  go_ret2;exact ⟨er_,pB_ HB.out⟩
end Go.Proofs.Yteahaehbciccmaa.PFnPutDrop
