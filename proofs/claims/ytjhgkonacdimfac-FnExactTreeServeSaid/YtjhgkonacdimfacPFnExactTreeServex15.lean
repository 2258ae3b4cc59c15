-- by a program of this session's, over the kit's words
import Derived.Test.YtjhgkonacdimfacPZFnExactTreeServe
import Derived.Test.YtjhgkonacdimfacPFnExactTreeServex0
import Derived.Test.YtjhgkonacdimfacPFnExactTreeServex10
import Derived.Test.YtjhgkonacdimfacPFnExactTreeServex11
import Derived.Test.YtjhgkonacdimfacPFnExactTreeServex13
namespace Go.Proofs.Ytjhgkonacdimfac.PFnExactTreeServe
open Go.RowKit Go.Proofs.YtjhgkonacdimfacW.PrintWords Go.Proofs.YtjhgkonacdimfacW.PrintLast Go.Proofs.YtjhgkonacdimfacW.PrintMore Go.Proofs.YtjhgkonacdimfacV Go.Proofs.Ytjhgkonacdimfac.ZFnExactTreeServe
open Go.Value renaming int → I, slice → Y
open Go.IntKind renaming i64 → L
open Aside0 renaming mk → D
open Option renaming bind_eq_some_iff → bs_
attribute [local go_sem] qam_ qak_ qaw_ qav_ qae_ qad_ qal_ qaj_
set_option linter.unusedVariables false
set_option linter.unusedSimpArgs false
set_option maxHeartbeats 8000000
set_option maxRecDepth 100000
def impl_both.f (b c d e g h:Int) (a:(Int→Int→Option (Int))):Option (Int×Int×Int):=(a b e).bind fun i=>((a c g).bind fun j=>((a d h).bind fun k=>(some (i,j,k))))
def impl_both.T1:Bool×List (List Nat×List Nat):=(true,[([],[]),([],[]),([1],[1]),([],[]),([3],[3]),([0,2,4],[0,2,4]),([],[]),([],[]),([7],[7]),([],[]),([9],[9]),([6,8,10,5],[6,8,10]),([],[]),([],[]),([13],[13]),([],[]),([15],[15]),([12,14,16,11],[12,14,16]),([5,11,17],[5,11,17]),([18,17,0,1,2,3,4,5,6,7,8,9,10,11,12,13,14,15,16,17,18],[18])])
def impl_both.B1:List Nat:=[0,0,2,0,8,31,0,0,128,0,512,2047,0,0,8192,0,32768,131071,262143,524287]
theorem impl_both.tab1:rtab .any (opsOf Try.f76 1)=impl_both.T1:=by kernel_rfl
theorem impl_both.bits1:q3_ impl_both.T1.2 impl_both.B1=true:=by kernel_rfl
theorem impl_both.calls (k l m o p q : Int) (u : (Int → Int → Option (Int))) (A : Nat) (v : Array Value) (B E G : Int) (w : World) (hq2 : Aside0 (∃ F_, Try.prog.funcs[A]? = some F_ ∧ (F_.name == "runtime.NumGoroutine") = false ∧ F_.body.isSome = true)) (HP2_76 : Aside0 (∀ (P T U : Int) (W_ : World), Below w.heap.size w W_ → u P T = some U → Calls Try.prog A (#[I L P, I L T] ++ v) W_ (fun e w' => e = .returned (I L U) ∧ Below W_.heap.size W_ w'))) (h : impl_both.f k l m o p q u = some (B, E, G)) :
  Calls Try.prog 76 #[.agg #[I L k,I L l,I L m],.agg #[I L o,I L p,I L q],.func (.func A) #[] v] w fun e w'=>e=.returned (.agg #[I L B,I L E,I L G])∧Below w.heap.size w w':=by
 have hu31:=Try.underlying31
 have HB:=D (Below.refl w.heap.size w)
 have H:((u k o).bind fun x=>((u l p).bind fun y=>((u m q).bind fun z=>(some (x,y,z)))))=some (B,E,G):=h
 clear h
 obtain ⟨x,W,H⟩:=bs_.mp H
 (try dsimp only at H)
 have A4:=D W
 clear W
 obtain ⟨y,X,H⟩:=bs_.mp H
 (try dsimp only at H)
 have A5:=D X
 clear X
 obtain ⟨z,Z,H⟩:=bs_.mp H
 (try dsimp only at H)
 have A6:=D Z
 clear Z
 simp only [Option.some.injEq,Prod.mk.injEq] at H
 obtain ⟨rfl,rfl,rfl⟩:=H
 go_enter Try.func76,Try.ntmps76
 try go_wp2_with (first|((with_reducible refine qh_ (N:=3) rfl ?_);refine bx_ (N:=3) (cs:=#[I L k,I L l,I L m]) (t:=31) ?_;intro g hg w7 hbox hb;have n_:=an_ (qd_ (pB_ HB.out) hb)<|an_ (hbox)<|an_ (bg_ hg (pB_ HB.out):w.heap.size≤g)<|D (bg_ hg (pB_ HB.out):w.heap.size≤g);clear HB;obtain ⟨HB,a,ag,ah⟩:=n_;clear hb hbox hg)|((with_reducible refine qh_ (N:=4) rfl ?_);refine bx_ (N:=4) (cs:=#[I L o,I L p,I L q]) (t:=31) ?_;intro j hg w8 hbox hb;have n_:=an_ (qa_ (pk_ a.out) hb)<|an_ (qd_ (pB_ HB.out) hb)<|an_ (hbox)<|an_ (bg_ hg (pB_ HB.out):w.heap.size≤j)<|an_ (bg_ hg (pB_ HB.out):w.heap.size≤j)<|an_ (nl_ hg (pk_ a.out):g≠j)<|D (by rw [hg];exact Nat.ne_of_gt (qt_ (pk_ a.out)):j≠g);clear a HB;obtain ⟨a,HB,b,aj,ak,al,am⟩:=n_;clear hb hbox hg)|((with_reducible refine qh_ (N:=6) rfl ?_);refine bx_ (N:=6) (cs:=#[I L 0,I L 0,I L 0]) (t:=31) ?_;intro d hg w9 hbox hb;have n_:=an_ (qa_ (pk_ a.out) hb)<|an_ (qa_ (pk_ b.out) hb)<|an_ (qd_ (pB_ HB.out) hb)<|an_ (hbox)<|an_ (bg_ hg (pB_ HB.out):w.heap.size≤d)<|an_ (bg_ hg (pB_ HB.out):w.heap.size≤d)<|an_ (nl_ hg (pk_ a.out):g≠d)<|an_ (ng_ hg (pk_ a.out):d≠g)<|an_ (nl_ hg (pk_ b.out):j≠d)<|D (by rw [hg];exact Nat.ne_of_gt (qt_ (pk_ b.out)):d≠j);clear a b HB;obtain ⟨a,b,HB,c,an,ao,r,J,s,M⟩:=n_;clear hb hbox hg))
 have n_:=an_ (qi_ a.out)<|an_ (qi_ b.out)<|an_ (qi_ c.out)<|D (ql_ HB.out)
 clear a b c HB
 obtain ⟨a,b,c,HB⟩:=n_
 refine q1_ (n:=20) (S:=fun w'=>w'.cell? ⟨g,0,none⟩=some (I L k)∧w'.cell? ⟨g,1,none⟩=some (I L l)∧w'.cell? ⟨g,2,none⟩=some (I L m)∧w'.cell? ⟨j,0,none⟩=some (I L o)∧w'.cell? ⟨j,1,none⟩=some (I L p)∧w'.cell? ⟨j,2,none⟩=some (I L q)) (ds:=[]) (bz 20 0) (by kernel_rfl) rfl (by kernel_rfl) (bk3_ a.out (be3_ b.out)) (fun hHeld=>?_);refine qn_ impl_both.tab1 impl_both.bits1 (fun HT_ HW_=>?_)
 generalize w9.drew=ap at a b c HB hHeld ⊢
 refine pb_ 0 ?_
 refine pb_ 1 ?_
 refine pb_ 3 ?_
 refine pb_ 6 ?_
 refine pb_ 7 ?_
 refine pb_ 9 ?_
 refine pb_ 12 ?_
 refine pb_ 13 ?_
 refine pb_ 15 ?_
 refine tb_ 2 rfl rfl hHeld Z87 ?_
 refine tb_ 4 rfl rfl hHeld Z87 ?_
 refine tb_ 8 rfl rfl hHeld Z87 ?_
 refine tb_ 10 rfl rfl hHeld Z87 ?_
 refine tb_ 14 rfl rfl hHeld Z87 ?_
 refine tb_ 16 rfl rfl hHeld Z87 ?_
 refine oa_ 5 12 20 129023 HT_ (fun K hK=>?_)
 obtain ⟨_,hF1_,hF2_,hF3_⟩:=hq2.out
 refine goesV_ hF1_ hF2_ hF3_ #[I L k,I L o] (cp:=v) (by rfl) rfl rfl Z93 Z24 ?_
 with_reducible refine (HP2_76.out k o x _ ?side1 A4.out).mono ?_
 (case side1=>exact pB_ HB.out)
 rintro e aq ⟨rfl,hb⟩
 refine ⟨_,rfl,?_⟩
 have n_:=an_ (qa_ (pk_ a.out) hb)<|an_ (qa_ (pk_ b.out) hb)<|an_ (qa_ (pk_ c.out) hb)<|D (qd_ (pB_ HB.out) hb)
 clear a b c HB
 obtain ⟨a,b,c,HB⟩:=n_
 (try clear hb)
 (try clear aa)
 (try clear hk)
 (try clear hi)
 refine hK.out _ _ (bk3_ a.out (be3_ b.out)) (fun hHeld=>?_)
 clear hK K
 refine nx_ (N:=some 12) ?_
 refine oa_ 11 18 20 131071 HT_ (fun K hK=>?_)
 obtain ⟨_,hF1_,hF2_,hF3_⟩:=hq2.out
 refine goesV_ hF1_ hF2_ hF3_ #[I L l,I L p] (cp:=v) (by rfl) rfl rfl Z93 Z24 ?_
 with_reducible refine (HP2_76.out l p y _ ?side1 A5.out).mono ?_
 (case side1=>exact pB_ HB.out)
 rintro e ar ⟨rfl,hb⟩
 refine ⟨_,rfl,?_⟩
 have n_:=an_ (qa_ (pk_ a.out) hb)<|an_ (qa_ (pk_ b.out) hb)<|an_ (qa_ (pk_ c.out) hb)<|D (qd_ (pB_ HB.out) hb)
 clear a b c HB
 obtain ⟨a,b,c,HB⟩:=n_
 (try clear hb)
 (try clear aa)
 (try clear hk)
 (try clear hi)
 refine hK.out _ _ (bk3_ a.out (be3_ b.out)) (fun hHeld=>?_)
 clear hK K
 refine nx_ (N:=some 18) ?_
 refine oa_ 17 24 20 262143 HT_ (fun K hK=>?_)
 obtain ⟨_,hF1_,hF2_,hF3_⟩:=hq2.out
 refine goesV_ hF1_ hF2_ hF3_ #[I L m,I L q] (cp:=v) (by rfl) rfl rfl Z93 Z24 ?_
 with_reducible refine (HP2_76.out m q z _ ?side1 A6.out).mono ?_
 (case side1=>exact pB_ HB.out)
 rintro e O ⟨rfl,hb⟩
 refine ⟨_,rfl,?_⟩
 have n_:=an_ (qa_ (pk_ a.out) hb)<|an_ (qa_ (pk_ b.out) hb)<|an_ (qa_ (pk_ c.out) hb)<|D (qd_ (pB_ HB.out) hb)
 clear a b c HB
 obtain ⟨a,b,c,HB⟩:=n_
 (try clear hb)
 (try clear aa)
 (try clear hk)
 (try clear hi)
 refine hK.out _ _ (bk3_ a.out (be3_ b.out)) (fun hHeld=>?_)
 clear hK K
 refine nx_ (N:=some 24) ?_
 refine pb_ 18 ?_
 refine one_ (i:=19) (N:=none) (bz 20 1048575) rfl rfl (qa4_ HT_.out (by kernel_rfl)) (by decide) (fun K hK=>?_)
 have au:O.cell? ⟨d,0,none⟩=some (I L 0):=(bc_ c.out 0)
 have av:=qj_ c.out 0
 have aw:=r.out
 have ax:=s.out
 have ay:=J.out
 have az:=M.out
 have aA:O.cell? ⟨d,1,none⟩=some (I L 0):=(bc_ c.out 1)
 have aB:=qj_ c.out 1
 have aC:=r.out
 have aD:=s.out
 have aE:=J.out
 have aF:=M.out
 have aG:O.cell? ⟨d,2,none⟩=some (I L 0):=(bc_ c.out 2)
 have aH:=qj_ c.out 2
 have aI:=r.out
 have aJ:=s.out
 have aK:=J.out
 have aL:=M.out
 refine skip_ (w1:=?_) (by rfl) rfl ?_ ?_
 rotate_left
 ·go_simp
  rfl
 refine hK.out _ _ ⟨(cF_ r.out (hHeld.1)),(cF_ r.out (hHeld.2.1)),(cF_ r.out (hHeld.2.2.1)),(cF_ s.out (hHeld.2.2.2.1)),(cF_ s.out (hHeld.2.2.2.2.1)),(cF_ s.out (hHeld.2.2.2.2.2))⟩ (fun hHeld=>?_)
 clear hK K
 refine done_ (qv_ HT_.out (by kernel_rfl)) ?_
 try go_wp2
 refine bodyPost_ret (results_cell_row rfl _ _ d 31 #[I L x,I L y,I L z] (0,0) _ rfl (by exact pP_ c.out) Try.underlying31 rfl (by kernel_rfl)) rfl ?_
 exact ⟨er_,pB_ HB.out⟩
def impl_VecMost_1.f (a b:Int):Option (Int):=some (mx a b)
theorem impl_VecMost_1.calls (a b r:Int) (w:World) (h:impl_VecMost_1.f a b=some r) :
  Calls Try.prog 77 #[I L a,I L b] w fun e w'=>e=.returned (I L r)∧Below w.heap.size w w':=by
 have HB:=D (Below.refl w.heap.size w)
 have H:(some (mx a b))=some r:=h
 clear h
 obtain ⟨c,hji3⟩:∃ j_:Int,(mx a b)=j_:=⟨_,rfl⟩
 replace H:(some c)=some r:=by first | (rw [hji3] at H;exact H) | (simp only [hji3] at H ⊢;exact H)
 have hji3_:(if a < b then b else a)=c:=hji3
 obtain rfl:=Option.some.inj H
 go_enter Try.func77,Try.ntmps77
 go_wp2
 go_ret
 exact ⟨by first | rfl | (simp [qaa_,q9_] <;> rfl) | (simp only [← hji3];first | rfl | (simp [qaa_,q9_] <;> rfl)) | (simp [*,qaa_,q9_] <;> rfl),pB_ HB.out⟩
def impl_VecMost.f (b c d e g h:Int):Option (Int×Int×Int):=(impl_both.f b c d e g h (fun i j=>impl_VecMost_1.f i j)).bind fun a=>(some (a.1,a.2.1,a.2.2))
theorem impl_VecMost.calls (d g i j k l p q r:Int) (w:World) (h:impl_VecMost.f d g i j k l=some (p,q,r)) :
  Calls Try.prog 55 #[.agg #[I L d,I L g,I L i],.agg #[I L j,I L k,I L l]] w fun e w'=>e=.returned (.agg #[I L p,I L q,I L r])∧Below w.heap.size w w':=by
 have hu31:=Try.underlying31
 have HB:=D (Below.refl w.heap.size w)
 have H:((impl_both.f d g i j k l (fun s u=>impl_VecMost_1.f s u)).bind fun v=>(some (v.1,v.2.1,v.2.2)))=some (p,q,r):=h
 clear h
 obtain ⟨⟨x,y,z⟩,A,H⟩:=bs_.mp H
 (try dsimp only at H)
 have G:=D A
 clear A
 simp only [Option.some.injEq,Prod.mk.injEq] at H
 obtain ⟨rfl,rfl,rfl⟩:=H
 go_enter Try.func55,Try.ntmps55
 go_wp2_with (first|((with_reducible refine qh_ (N:=2) rfl ?_);refine bx_ (N:=2) (cs:=#[I L d,I L g,I L i]) (t:=31) ?_;intro m hg W hbox hb;have n_:=an_ (qd_ (pB_ HB.out) hb)<|an_ (hbox)<|an_ (bg_ hg (pB_ HB.out):w.heap.size≤m)<|D (bg_ hg (pB_ HB.out):w.heap.size≤m);clear HB;obtain ⟨HB,a,X,Z⟩:=n_;clear hb hbox hg)|((with_reducible refine qh_ (N:=3) rfl ?_);refine bx_ (N:=3) (cs:=#[I L j,I L k,I L l]) (t:=31) ?_;intro n hg w5 hbox hb;have n_:=an_ (qa_ (pk_ a.out) hb)<|an_ (qd_ (pB_ HB.out) hb)<|an_ (hbox)<|an_ (bg_ hg (pB_ HB.out):w.heap.size≤n)<|an_ (bg_ hg (pB_ HB.out):w.heap.size≤n)<|an_ (nl_ hg (pk_ a.out):m≠n)<|D (by rw [hg];exact Nat.ne_of_gt (qt_ (pk_ a.out)):n≠m);clear a HB;obtain ⟨a,HB,b,ab,ac,J,K⟩:=n_;clear hb hbox hg)|((with_reducible refine qh_ (N:=4) rfl ?_);refine bx_ (N:=4) (cs:=#[I L 0,I L 0,I L 0]) (t:=31) ?_;intro c hg w6 hbox hb;have n_:=an_ (qa_ (pk_ a.out) hb)<|an_ (qa_ (pk_ b.out) hb)<|an_ (qd_ (pB_ HB.out) hb)<|an_ (hbox)<|an_ (bg_ hg (pB_ HB.out):w.heap.size≤c)<|an_ (bg_ hg (pB_ HB.out):w.heap.size≤c)<|an_ (nl_ hg (pk_ a.out):m≠c)<|an_ (ng_ hg (pk_ a.out):c≠m)<|an_ (nl_ hg (pk_ b.out):n≠c)<|D (by rw [hg];exact Nat.ne_of_gt (qt_ (pk_ b.out)):c≠n);clear a b HB;obtain ⟨a,b,HB,o,ae,af,M,O,P,T⟩:=n_;clear hb hbox hg;(try have:=J.out);(try have:=K.out);(try have:=M.out);(try have:=O.out);obtain ⟨ag,ah,ai,aj,ak,al⟩:=q0_ a.out;(try have:=P.out);(try have:=T.out);obtain ⟨am,an,ao,ap,aq,ar⟩:=q0_ b.out)|((with_reducible refine qe_ (f:=76) rfl ?_);refine qp_ (some 7) rfl rfl Try.func76 (by kernel_rfl) rfl #[.agg #[I L d,I L g,I L i],.agg #[I L j,I L k,I L l],.func (.func 77) #[] #[]] rfl Z24 ?_;(with_reducible refine (impl_both.calls d g i j k l (fun s u=>impl_VecMost_1.f s u) 77 #[] x y z _ ?side1 ?side2 G.out).mono ?_);(case side1=>exact ⟨⟨_,Try.func77,by kernel_rfl,rfl⟩⟩);(case side2=>refine ⟨?_⟩;intro B E U W_ hW_ h_;refine qbb_ (args':=#[I L B,I L E]) (by simp) ?_;refine (impl_VecMost_1.calls B E  U W_ h_).mono ?_;rintro e w' ⟨rfl,hd_⟩;exact ⟨rfl,hd_⟩);rintro e au ⟨rfl,hb⟩;refine ⟨_,rfl,?_⟩;have n_:=an_ (qa_ (pk_ a.out) hb)<|an_ (qa_ (pk_ b.out) hb)<|an_ (qa_ (pk_ o.out) hb)<|D (qd_ (pB_ HB.out) hb);clear a b o HB;obtain ⟨a,b,o,HB⟩:=n_;(try clear hb);obtain ⟨av,aw,ax,ay,az,aA⟩:=q0_ o.out))
 refine bodyPost_ret (results_cell_row rfl _ _ c 31 #[I L x,I L y,I L z] (0,0) _ rfl (by exact pP_ o.out) Try.underlying31 rfl (by kernel_rfl)) rfl ?_
 exact ⟨er_,pB_ HB.out⟩
def impl_Finish_1.f (a b c:Int):Option (Int):=(impl_Stride.f c).bind fun d=>(some (wrap64 (a+(wrap64 (b * d)))))
theorem impl_Finish_1.calls (b c:Int) (gc2:Nat) (a r:Int) (w:World) (hbx2:w.heap[gc2]?=some (.cells #[I L a] 3 (0,0))) (h:impl_Finish_1.f b c a=some r) :
  Calls Try.prog 80 #[I L b,I L c,.pointer (some ⟨gc2,0,none⟩)] w fun e w'=>e=.returned (I L r)∧Drawn0 w w':=by
 have i:=D hbx2
 clear hbx2
 have H:((impl_Stride.f a).bind fun d=>(some (wrap64 (b+(wrap64 (c * d))))))=some r:=h
 clear h
 obtain ⟨d,g,H⟩:=bs_.mp H
 (try dsimp only at H)
 have j:=D g
 clear g
 obtain rfl:=Option.some.inj H
 obtain ⟨k,l⟩:=cells1 i.out
 go_enter Try.func80,Try.ntmps80
 go_wp2_with (first|((with_reducible refine qe_ (f:=81) rfl ?_);refine qp_ (some 9) rfl rfl Try.func81 (by kernel_rfl) rfl #[I L a] rfl Z24 ?_;(with_reducible refine (impl_Stride.calls a d _ j.out).mono ?_);rintro e w' ⟨rfl,⟨nd,rfl⟩⟩;refine ⟨_,rfl,?_⟩))
 go_ret
 exact ⟨by first | rfl | (simp;done) | (simp [*];done),by repeat (first | exact Drawn0.refl _ | apply Drawn0.step)⟩
def impl_Finish.j0:Nat→Bool→Int→Int→Int→Int→Int→Int→Int→Option (Int×Int×Int×Bool)
 | 0,_,_,_,_,_,_,_,_=>none
 | k+1,b,c,d,e,g,h,i,j=>if b=true then (some (0,0,0,false)) else ((impl_both.f c d e g h i (fun l m=>impl_Finish_1.f l m j)).bind fun a=>((impl_TagOk.f a.1 a.2.1 a.2.2).bind fun n=>(if n=true then (some (a.1,a.2.1,a.2.2,true)) else (some (0,0,0,false)))))
def impl_Finish.f (k:Nat) (a b c d e g h:Int):Option (Int×Int×Int×Bool):=(impl_TagOk.f a b c).bind fun i=>(if i=true then ((impl_ChargeOk.f d e g).bind fun j=>(if j=true then ((impl_isWeight.f h).bind fun l=>(impl_Finish.j0 k (!l) a b c d e g h)) else (impl_Finish.j0 k true a b c d e g h))) else (impl_Finish.j0 k true a b c d e g h))
theorem impl_Finish.calls (k:Nat) (a b c d i j l n p q:Int) (r:Bool) (w:World) (h:impl_Finish.f k a b c d i j l=some (n,p,q,r)) :
  Calls Try.prog 56 #[.agg #[I L a,I L b,I L c],.agg #[I L d,I L i,I L j],I L l] w fun e w'=>e=.returned (.tuple #[.agg #[I L n,I L p,I L q],.bool r])∧Below w.heap.size w w':=by
 have hu31:=Try.underlying31
 have hmf:∀ (fn:Fn) (first cap:Array Value) (w:World),(Instr.makeFunc fn first cap).run Try.prog w=.ok (.func fn first cap) w:=fun _ _ _ _=>rfl
 have HB:=D (Below.refl w.heap.size w)
 have H:((impl_TagOk.f a b c).bind fun Xe=>(if Xe=true then ((impl_ChargeOk.f d i j).bind fun Jf=>(if Jf=true then ((impl_isWeight.f l).bind fun Od=>(impl_Finish.j0 k (!Od) a b c d i j l)) else (impl_Finish.j0 k true a b c d i j l))) else (impl_Finish.j0 k true a b c d i j l)))=some (n,p,q,r):=h
 clear h
 have v:=D H
 clear H
 go_enter Try.func56,Try.ntmps56
 go_upto_region 1 with (first|((with_reducible refine qh_ (N:=3) rfl ?_);refine bx_ (N:=3) (cs:=#[I L a,I L b,I L c]) (t:=31) ?_;intro Mb hg w5 hbox hb;have n_:=an_ (qd_ (pB_ HB.out) hb)<|an_ (hbox)<|an_ (bg_ hg (pB_ HB.out):w.heap.size≤Mb)<|D (bg_ hg (pB_ HB.out):w.heap.size≤Mb);clear HB;obtain ⟨HB,Ka,Kn,Mn⟩:=n_;clear hb hbox hg)|((with_reducible refine qh_ (N:=4) rfl ?_);refine bx_ (N:=4) (cs:=#[I L d,I L i,I L j]) (t:=31) ?_;intro Ua hg w6 hbox hb;have n_:=an_ (qa_ (pk_ Ka.out) hb)<|an_ (qd_ (pB_ HB.out) hb)<|an_ (hbox)<|an_ (bg_ hg (pB_ HB.out):w.heap.size≤Ua)<|an_ (bg_ hg (pB_ HB.out):w.heap.size≤Ua)<|an_ (nl_ hg (pk_ Ka.out):Mb≠Ua)<|D (by rw [hg];exact Nat.ne_of_gt (qt_ (pk_ Ka.out)):Ua≠Mb);clear Ka HB;obtain ⟨Ka,HB,Ja,On,Un,Ud,Xd⟩:=n_;clear hb hbox hg)|((with_reducible refine qh_ (N:=5) rfl ?_);refine bx_ (N:=5) (cs:=#[I L l]) (t:=3) ?_;intro Xa hg w7 hbox hb;have n_:=an_ (qa_ (pk_ Ka.out) hb)<|an_ (qa_ (pk_ Ja.out) hb)<|an_ (qd_ (pB_ HB.out) hb)<|an_ (hbox)<|an_ (bg_ hg (pB_ HB.out):w.heap.size≤Xa)<|an_ (bg_ hg (pB_ HB.out):w.heap.size≤Xa)<|an_ (nl_ hg (pk_ Ka.out):Mb≠Xa)<|an_ (ng_ hg (pk_ Ka.out):Xa≠Mb)<|an_ (nl_ hg (pk_ Ja.out):Ua≠Xa)<|D (by rw [hg];exact Nat.ne_of_gt (qt_ (pk_ Ja.out)):Xa≠Ua);clear Ka Ja HB;obtain ⟨Ka,Ja,HB,Ma,Xn,Jo,Je,Ke,Kf,Mf⟩:=n_;clear hb hbox hg)|((with_reducible refine qh_ (N:=6) rfl ?_);refine bx_ (N:=6) (cs:=#[I L 0,I L 0,I L 0]) (t:=31) ?_;intro Jb hg w8 hbox hb;have n_:=an_ (qa_ (pk_ Ka.out) hb)<|an_ (qa_ (pk_ Ja.out) hb)<|an_ (qa_ (pk_ Ma.out) hb)<|an_ (qd_ (pB_ HB.out) hb)<|an_ (hbox)<|an_ (bg_ hg (pB_ HB.out):w.heap.size≤Jb)<|an_ (bg_ hg (pB_ HB.out):w.heap.size≤Jb)<|an_ (nl_ hg (pk_ Ka.out):Mb≠Jb)<|an_ (ng_ hg (pk_ Ka.out):Jb≠Mb)<|an_ (nl_ hg (pk_ Ja.out):Ua≠Jb)<|an_ (ng_ hg (pk_ Ja.out):Jb≠Ua)<|an_ (nl_ hg (pk_ Ma.out):Xa≠Jb)<|D (by rw [hg];exact Nat.ne_of_gt (qt_ (pk_ Ma.out)):Jb≠Xa);clear Ka Ja Ma HB;obtain ⟨Ka,Ja,Ma,HB,Oa,Ko,Mo,Xb,Jc,Mc,Oc,Me,Oe⟩:=n_;clear hb hbox hg))
 (try simp only [Act.put,List.setIfInBounds_toArray,List.set_cons_zero,List.set_cons_succ])
 go_cut [21] (fun O wc=>∃ (kq:Nat) (Ue:Bool),O=.bool Ue∧Aside0 (impl_Finish.j0 kq Ue a b c d i j l=some (n,p,q,r))∧Aside0 (kq≤k)∧Aside0 (wc.heap[Mb]?=some (.cells #[I L a,I L b,I L c] 31 (0,0)))∧Aside0 (wc.heap[Ua]?=some (.cells #[I L d,I L i,I L j] 31 (0,0)))∧Aside0 (wc.heap[Xa]?=some (.cells #[I L l] 3 (0,0)))∧Aside0 (wc.heap[Jb]?=some (.cells #[I L 0,I L 0,I L 0] 31 (0,0)))∧Aside0 (Below w.heap.size w wc))
 case first =>
  have H:=v.out;clear v;obtain ⟨Xe,y,H⟩:=bs_.mp H;(try dsimp only at H);have x:=D y;clear y
  by_cases c10:Xe=true
  ·subst c10
   rw [if_pos rfl] at H;obtain ⟨Jf,z,H⟩:=bs_.mp H;(try dsimp only at H);have A:=D z;clear z
   by_cases m:Jf=true
   ·subst m
    rw [if_pos rfl] at H;obtain ⟨Od,B,H⟩:=bs_.mp H;(try dsimp only at H);have P:=D B;clear B;have H':=D H;clear H;(try have:=Ud.out);(try have:=Xd.out);(try have:=Je.out);(try have:=Ke.out);(try have:=Xb.out);(try have:=Jc.out);obtain ⟨Mg,Og,Ug,Xg,Jh,Kh⟩:=q0_ Ka.out
    go_wp2_with (first|((with_reducible refine qe_ (f:=78) rfl ?_);refine qp_ (some 10) rfl rfl Try.func78 (by kernel_rfl) rfl #[.agg #[I L a,I L b,I L c]] rfl Z24 ?_;(with_reducible refine (impl_TagOk.calls a b c true _ x.out).mono ?_);rintro e ae ⟨rfl,hb⟩;refine ⟨_,rfl,?_⟩;have n_:=an_ (qa_ (pk_ Ka.out) hb)<|an_ (qa_ (pk_ Ja.out) hb)<|an_ (qa_ (pk_ Ma.out) hb)<|an_ (qa_ (pk_ Oa.out) hb)<|D (qd_ (pB_ HB.out) hb);clear Ka Ja Ma Oa HB;obtain ⟨Ka,Ja,Ma,Oa,HB⟩:=n_;(try clear hb);(try have:=Kf.out);(try have:=Mf.out);(try have:=Mc.out);(try have:=Oc.out);obtain ⟨Mh,Oh,Uh,Xh,Ji,Ki⟩:=q0_ Ja.out)|(go_at_call 24;(with_reducible refine (impl_ChargeOk.calls d i j true _ A.out).mono ?_);rintro e af ⟨rfl,hb⟩;have n_:=an_ (qa_ (pk_ Ka.out) hb)<|an_ (qa_ (pk_ Ja.out) hb)<|an_ (qa_ (pk_ Ma.out) hb)<|an_ (qa_ (pk_ Oa.out) hb)<|D (qd_ (pB_ HB.out) hb);clear Ka Ja Ma Oa HB;obtain ⟨Ka,Ja,Ma,Oa,HB⟩:=n_;(try clear hb);(try have:=Me.out);(try have:=Oe.out);obtain ⟨Mi,Oi⟩:=cells1 Ma.out)|(go_at_call 79;(with_reducible refine (impl_isWeight.calls l Od _ P.out).mono ?_);rintro e w' ⟨rfl,⟨nd,rfl⟩⟩))
    go_meet
    case rel=>exact ⟨_,(!Od),Z92,H',⟨by first | omega | exact Nat.le_refl _⟩,⟨pk_ Ka.out⟩,⟨pk_ Ja.out⟩,⟨pk_ Ma.out⟩,⟨pk_ Oa.out⟩,⟨pB_ HB.out⟩⟩
   ·replace m:=Bool.eq_false_iff.mpr m
    subst m;rw [if_neg (show ¬ (false=true) by decide)] at H;have H':=D H;clear H;(try have:=Ud.out);(try have:=Xd.out);(try have:=Je.out);(try have:=Ke.out);(try have:=Xb.out);(try have:=Jc.out);obtain ⟨Ui,Xi,Jj,Kj,Mj,Oj⟩:=q0_ Ka.out
    go_wp2_with (first|((with_reducible refine qe_ (f:=78) rfl ?_);refine qp_ (some 10) rfl rfl Try.func78 (by kernel_rfl) rfl #[.agg #[I L a,I L b,I L c]] rfl Z24 ?_;(with_reducible refine (impl_TagOk.calls a b c true _ x.out).mono ?_);rintro e ag ⟨rfl,hb⟩;refine ⟨_,rfl,?_⟩;have n_:=an_ (qa_ (pk_ Ka.out) hb)<|an_ (qa_ (pk_ Ja.out) hb)<|an_ (qa_ (pk_ Ma.out) hb)<|an_ (qa_ (pk_ Oa.out) hb)<|D (qd_ (pB_ HB.out) hb);clear Ka Ja Ma Oa HB;obtain ⟨Ka,Ja,Ma,Oa,HB⟩:=n_;(try clear hb);(try have:=Kf.out);(try have:=Mf.out);(try have:=Mc.out);(try have:=Oc.out);obtain ⟨Uj,Xj,Jk,Kk,Mk,Ok⟩:=q0_ Ja.out)|(go_at_call 24;(with_reducible refine (impl_ChargeOk.calls d i j false _ A.out).mono ?_);rintro e ah ⟨rfl,hb⟩;have n_:=an_ (qa_ (pk_ Ka.out) hb)<|an_ (qa_ (pk_ Ja.out) hb)<|an_ (qa_ (pk_ Ma.out) hb)<|an_ (qa_ (pk_ Oa.out) hb)<|D (qd_ (pB_ HB.out) hb);clear Ka Ja Ma Oa HB;obtain ⟨Ka,Ja,Ma,Oa,HB⟩:=n_;(try clear hb)))
    go_meet
    case rel=>exact ⟨_,(true),Z92,H',⟨by first | omega | exact Nat.le_refl _⟩,⟨pk_ Ka.out⟩,⟨pk_ Ja.out⟩,⟨pk_ Ma.out⟩,⟨pk_ Oa.out⟩,⟨pB_ HB.out⟩⟩
  ·replace c10:=Bool.eq_false_iff.mpr c10
   subst c10;rw [if_neg (show ¬ (false=true) by decide)] at H;have H':=D H;clear H;(try have:=Ud.out);(try have:=Xd.out);(try have:=Je.out);(try have:=Ke.out);(try have:=Xb.out);(try have:=Jc.out);obtain ⟨Uk,Xk,Jm,Km,Mm,Om⟩:=q0_ Ka.out
   go_wp2_with (first|((with_reducible refine qe_ (f:=78) rfl ?_);refine qp_ (some 10) rfl rfl Try.func78 (by kernel_rfl) rfl #[.agg #[I L a,I L b,I L c]] rfl Z24 ?_;(with_reducible refine (impl_TagOk.calls a b c false _ x.out).mono ?_);rintro e ai ⟨rfl,hb⟩;refine ⟨_,rfl,?_⟩;have n_:=an_ (qa_ (pk_ Ka.out) hb)<|an_ (qa_ (pk_ Ja.out) hb)<|an_ (qa_ (pk_ Ma.out) hb)<|an_ (qa_ (pk_ Oa.out) hb)<|D (qd_ (pB_ HB.out) hb);clear Ka Ja Ma Oa HB;obtain ⟨Ka,Ja,Ma,Oa,HB⟩:=n_;(try clear hb)))
   go_meet
   case rel=>exact ⟨_,(true),Z92,H',⟨by first | omega | exact Nat.le_refl _⟩,⟨pk_ Ka.out⟩,⟨pk_ Ja.out⟩,⟨pk_ Ma.out⟩,⟨pk_ Oa.out⟩,⟨pB_ HB.out⟩⟩
 case rest =>
  clear v
  (try clear c1);(try clear c2);(try clear p2);(try clear c3);(try clear c5);(try clear c7);(try clear c10);(try clear m);(try clear al);(try clear am);(try clear an);(try clear ao);(try clear ap);(try clear aq);(try clear ar);(try clear au);(try clear av);(try clear aw);(try clear ax);(try clear ay);(try clear az);(try clear aA);(try clear Mg Og Ug Xg Jh Kh);(try clear Mh Oh Uh Xh Ji Ki);(try clear Mi Oi);(try clear Ui Xi Jj Kj Mj Oj);(try clear Uj Xj Jk Kk Mk Ok);(try clear Uk Xk Jm Km Mm Om)
  obtain ⟨kq,Ue,rfl,HA,aB,Ka,Ja,Ma,Oa,HB⟩:=hcut
  cases kq with
  | zero=>exact absurd HA.out (by simp [impl_Finish.j0])
  | succ kj3 =>
   have H:=HA.out;clear HA;simp only [impl_Finish.j0] at H
   by_cases s:Ue=true
   ·subst s
    rw [if_pos rfl] at H;simp only [Option.some.injEq,Prod.mk.injEq] at H;obtain ⟨rfl,rfl,rfl,rfl⟩:=H;(try have:=Jc.out);(try have:=Xb.out);(try have:=Oc.out);(try have:=Mc.out);(try have:=Oe.out);(try have:=Me.out);obtain ⟨Oo,Uo,Xo,Jp,Kp,Mp⟩:=q0_ Oa.out
    go_wp2
    refine bodyPost_ret (q2_ rfl _ _ Jb 31 #[I L 0,I L 0,I L 0] (0,0) _ rfl Z10 Try.underlying31 rfl (by kernel_rfl)) rfl ?_;exact ⟨er_,pB_ HB.out⟩
   ·replace s:=Bool.eq_false_iff.mpr s
    subst s;rw [if_neg (show ¬ (false=true) by decide)] at H;obtain ⟨⟨Ub,Kc,Xc⟩,E,H⟩:=bs_.mp H;(try dsimp only at H);have T:=D E;clear E;obtain ⟨Uf,G,H⟩:=bs_.mp H;(try dsimp only at H);have U:=D G;clear G;have J:=D H;clear H;(try have:=Ud.out);(try have:=Xd.out);(try have:=Je.out);(try have:=Ke.out);(try have:=Xb.out);(try have:=Jc.out);obtain ⟨Op,Up,Xp,Jq,Kq,Mq⟩:=q0_ Ka.out;(try have:=Kf.out);(try have:=Mf.out);(try have:=Mc.out);(try have:=Oc.out);obtain ⟨Oq,Uq,Xq,Jr,Kr,Mr⟩:=q0_ Ja.out
    go_upto_if 29 with (first|((with_reducible refine qe_ (f:=76) rfl ?_);refine qp_ (some 26) rfl rfl Try.func76 (by kernel_rfl) rfl #[.agg #[I L a,I L b,I L c],.agg #[I L d,I L i,I L j],.func (.func 80) #[] #[.pointer (some ⟨Xa,0,none⟩)]] rfl Z24 ?_;(with_reducible refine (impl_both.calls a b c d i j (fun W X=>impl_Finish_1.f W X l) 80 #[.pointer (some ⟨Xa,0,none⟩)] Ub Kc Xc _ ?side1 ?side2 T.out).mono ?_);(case side1=>exact ⟨⟨_,Try.func80,by kernel_rfl,rfl⟩⟩);(case side2=>refine ⟨?_⟩;intro K M Z W_ hW_ h_;refine qbb_ (args':=#[I L K,I L M,.pointer (some ⟨Xa,0,none⟩)]) (by simp) ?_;refine (impl_Finish_1.calls K M Xa l Z W_ (qa_ (pk_ Ma.out) hW_) h_).mono ?_;rintro e w' ⟨rfl,hd_⟩;exact ⟨rfl,hd_.below⟩);rintro e aC ⟨rfl,hb⟩;refine ⟨_,rfl,?_⟩;have n_:=an_ (qa_ (pk_ Ka.out) hb)<|an_ (qa_ (pk_ Ja.out) hb)<|an_ (qa_ (pk_ Ma.out) hb)<|an_ (qa_ (pk_ Oa.out) hb)<|D (qd_ (pB_ HB.out) hb);clear Ka Ja Ma Oa HB;obtain ⟨Ka,Ja,Ma,Oa,HB⟩:=n_;(try clear hb))|((with_reducible refine qh_ (N:=8) rfl ?_);refine bx_ (N:=8) (cs:=#[I L 0,I L 0,I L 0]) (t:=31) ?_;intro Kb hg aD hbox hb;have n_:=an_ (qa_ (pk_ Ka.out) hb)<|an_ (qa_ (pk_ Ja.out) hb)<|an_ (qa_ (pk_ Ma.out) hb)<|an_ (qa_ (pk_ Oa.out) hb)<|an_ (qd_ (pB_ HB.out) hb)<|an_ (hbox)<|an_ (bg_ hg (pB_ HB.out):w.heap.size≤Kb)<|an_ (bg_ hg (pB_ HB.out):w.heap.size≤Kb)<|an_ (nl_ hg (pk_ Ka.out):Mb≠Kb)<|an_ (ng_ hg (pk_ Ka.out):Kb≠Mb)<|an_ (nl_ hg (pk_ Ja.out):Ua≠Kb)<|an_ (ng_ hg (pk_ Ja.out):Kb≠Ua)<|an_ (nl_ hg (pk_ Ma.out):Xa≠Kb)<|an_ (ng_ hg (pk_ Ma.out):Kb≠Xa)<|an_ (nl_ hg (pk_ Oa.out):Jb≠Kb)<|D (by rw [hg];exact Nat.ne_of_gt (qt_ (pk_ Oa.out)):Kb≠Jb);clear Ka Ja Ma Oa HB;obtain ⟨Ka,Ja,Ma,Oa,HB,Ob,Or,Ur,Jd,Xf,Kd,Jg,Md,Kg,Uc,Of⟩:=n_;clear hb hbox hg;(try have:=Xf.out);(try have:=Jd.out);(try have:=Jg.out);(try have:=Kd.out);(try have:=Kg.out);(try have:=Md.out);(try have:=Of.out);(try have:=Uc.out);obtain ⟨Xr,Js,Ks,Ms,Os,Us⟩:=q0_ Ob.out)|((with_reducible refine qe_ (f:=78) rfl ?_);refine qp_ (some 28) rfl rfl Try.func78 (by kernel_rfl) rfl #[.agg #[I L Ub,I L Kc,I L Xc]] rfl Z24 ?_;(with_reducible refine (impl_TagOk.calls Ub Kc Xc Uf _ U.out).mono ?_);rintro e aE ⟨rfl,hb⟩;refine ⟨_,rfl,?_⟩;have n_:=an_ (qa_ (g:=Mb) (o:=.cells #[I L a,I L b,I L c] 31 (0,0)) (by exact pP_ Ka.out) hb)<|an_ (qa_ (g:=Ua) (o:=.cells #[I L d,I L i,I L j] 31 (0,0)) (by exact pP_ Ja.out) hb)<|an_ (qa_ (g:=Xa) (o:=.cells #[I L l] 3 (0,0)) (by exact pP_ Ma.out) hb)<|an_ (qa_ (g:=Jb) (o:=.cells #[I L 0,I L 0,I L 0] 31 (0,0)) (by exact pP_ Oa.out) hb)<|an_ (qa_ (g:=Kb) (o:=.cells #[I L Ub,I L Kc,I L Xc] 31 (0,0)) (by exact pP_ Ob.out) hb)<|D (qd_ (pB_ HB.out) hb);clear Ka Ja Ma Oa Ob HB;obtain ⟨Ka,Ja,Ma,Oa,Ob,HB⟩:=n_;(try clear hb)))
    have H:=J.out;clear J
    by_cases u:Uf=true
    ·subst u
     rw [if_pos rfl] at H;simp only [Option.some.injEq,Prod.mk.injEq] at H;obtain ⟨rfl,rfl,rfl,rfl⟩:=H;(try have:=Xf.out);(try have:=Jd.out);(try have:=Jg.out);(try have:=Kd.out);(try have:=Kg.out);(try have:=Md.out);(try have:=Of.out);(try have:=Uc.out);obtain ⟨Xs,Ju,Ku,Mu,Ou,Uu⟩:=q0_ Ob.out;(try have:=Jc.out);(try have:=Xb.out);(try have:=Oc.out);(try have:=Mc.out);(try have:=Oe.out);(try have:=Me.out);obtain ⟨Xu,Jv,Kv,Mv,Ov,Uv⟩:=q0_ Oa.out
     go_wp2
     refine bodyPost_ret (q2_ rfl _ _ Jb 31 #[I L Ub,I L Kc,I L Xc] (0,0) _ rfl (by exact pP_ Oa.out) Try.underlying31 rfl (by kernel_rfl)) rfl ?_;exact ⟨er_,pB_ HB.out⟩
    ·replace u:=Bool.eq_false_iff.mpr u
     subst u;rw [if_neg (show ¬ (false=true) by decide)] at H;simp only [Option.some.injEq,Prod.mk.injEq] at H;obtain ⟨rfl,rfl,rfl,rfl⟩:=H;(try have:=Jc.out);(try have:=Xb.out);(try have:=Oc.out);(try have:=Mc.out);(try have:=Oe.out);(try have:=Me.out);(try have:=Uc.out);(try have:=Of.out);obtain ⟨Xv,Jx,Kx,Mx,Ox,Ux⟩:=q0_ Oa.out
     go_wp2
     refine bodyPost_ret (q2_ rfl _ _ Jb 31 #[I L 0,I L 0,I L 0] (0,0) _ rfl Z10 Try.underlying31 rfl (by kernel_rfl)) rfl ?_;exact ⟨er_,pB_ HB.out⟩
def impl_Vec_each.f (b c d:Int) (a:(Int→Option (Int))):Option (Int×Int×Int):=(a b).bind fun Um=>((a c).bind fun Xm=>((a d).bind fun Jn=>(some (Um,Xm,Jn))))
def impl_Vec_each.T1:Bool×List (List Nat×List Nat):=(true,[([],[]),([],[]),([1],[1]),([0,2],[0,2]),([],[]),([],[]),([5],[5]),([4,6,3],[4,6]),([],[]),([],[]),([9],[9]),([8,10,7],[8,10]),([3,7,11],[3,7,11]),([12,11,0,1,2,3,4,5,6,7,8,9,10,11,12],[12])])
def impl_Vec_each.B1:List Nat:=[0,0,2,7,0,0,32,127,0,0,512,2047,4095,8191]
theorem impl_Vec_each.tab1:rtab .any (opsOf Try.f83 1)=impl_Vec_each.T1:=by kernel_rfl
theorem impl_Vec_each.bits1:q3_ impl_Vec_each.T1.2 impl_Vec_each.B1=true:=by kernel_rfl
theorem impl_Vec_each.calls (d g j : Int) (m : (Int → Option (Int))) (s : Nat) (o : Array Value) (u v x : Int) (w : World) (hq1 : Aside0 (∃ F_, Try.prog.funcs[s]? = some F_ ∧ (F_.name == "runtime.NumGoroutine") = false ∧ F_.body.isSome = true)) (HP1_83 : Aside0 (∀ (A B : Int) (W_ : World), Below w.heap.size w W_ → m A = some B → Calls Try.prog s (#[I L A] ++ o) W_ (fun e w' => e = .returned (I L B) ∧ Below W_.heap.size W_ w'))) (h : impl_Vec_each.f d g j m = some (u, v, x)) :
  Calls Try.prog 83 #[.agg #[I L d,I L g,I L j],.func (.func s) #[] o] w fun e w'=>e=.returned (.agg #[I L u,I L v,I L x])∧Below w.heap.size w w':=by
 have hu31:=Try.underlying31
 have HB:=D (Below.refl w.heap.size w)
 have H:((m d).bind fun p=>((m g).bind fun q=>((m j).bind fun r=>(some (p,q,r)))))=some (u,v,x):=h
 clear h
 obtain ⟨p,E,H⟩:=bs_.mp H
 (try dsimp only at H)
 have O:=D E
 clear E
 obtain ⟨q,G,H⟩:=bs_.mp H
 (try dsimp only at H)
 have P:=D G
 clear G
 obtain ⟨r,J,H⟩:=bs_.mp H
 (try dsimp only at H)
 have T:=D J
 clear J
 simp only [Option.some.injEq,Prod.mk.injEq] at H
 obtain ⟨rfl,rfl,rfl⟩:=H
 go_enter Try.func83,Try.ntmps83
 try go_wp2_with (first|((with_reducible refine qh_ (N:=2) rfl ?_);refine bx_ (N:=2) (cs:=#[I L d,I L g,I L j]) (t:=31) ?_;intro k hg W hbox hb;have n_:=an_ (qd_ (pB_ HB.out) hb)<|an_ (hbox)<|an_ (bg_ hg (pB_ HB.out):w.heap.size≤k)<|D (bg_ hg (pB_ HB.out):w.heap.size≤k);clear HB;obtain ⟨HB,a,X,Z⟩:=n_;clear hb hbox hg)|((with_reducible refine qh_ (N:=4) rfl ?_);refine bx_ (N:=4) (cs:=#[I L 0,I L 0,I L 0]) (t:=31) ?_;intro c hg U hbox hb;have n_:=an_ (qa_ (pk_ a.out) hb)<|an_ (qd_ (pB_ HB.out) hb)<|an_ (hbox)<|an_ (bg_ hg (pB_ HB.out):w.heap.size≤c)<|an_ (bg_ hg (pB_ HB.out):w.heap.size≤c)<|an_ (nl_ hg (pk_ a.out):k≠c)<|D (by rw [hg];exact Nat.ne_of_gt (qt_ (pk_ a.out)):c≠k);clear a HB;obtain ⟨a,HB,b,aa,ab,l,y⟩:=n_;clear hb hbox hg))
 have n_:=an_ (qi_ a.out)<|an_ (qi_ b.out)<|D (ql_ HB.out)
 clear a b HB
 obtain ⟨a,b,HB⟩:=n_
 refine q1_ (n:=14) (S:=fun w'=>w'.cell? ⟨k,0,none⟩=some (I L d)∧w'.cell? ⟨k,1,none⟩=some (I L g)∧w'.cell? ⟨k,2,none⟩=some (I L j)) (ds:=[]) (bz 14 0) (by kernel_rfl) rfl (by kernel_rfl) (be3_ a.out) (fun hHeld=>?_);refine qn_ impl_Vec_each.tab1 impl_Vec_each.bits1 (fun HT_ HW_=>?_)
 generalize U.drew=w8 at a b HB hHeld ⊢
 refine pb_ 0 ?_
 refine pb_ 1 ?_
 refine pb_ 4 ?_
 refine pb_ 5 ?_
 refine pb_ 8 ?_
 refine pb_ 9 ?_
 refine tb_ 2 rfl rfl hHeld Z90 ?_
 refine tb_ 6 rfl rfl hHeld Z90 ?_
 refine tb_ 10 rfl rfl hHeld Z90 ?_
 refine oa_ 3 8 14 1919 HT_ (fun K hK=>?_)
 obtain ⟨_,hF1_,hF2_,hF3_⟩:=hq1.out
 refine goesV_ hF1_ hF2_ hF3_ #[I L d] (cp:=o) (by rfl) rfl rfl Z93 Z24 ?_
 with_reducible refine (HP1_83.out d p _ ?side1 O.out).mono ?_
 (case side1=>exact pB_ HB.out)
 rintro e w9 ⟨rfl,hb⟩
 refine ⟨_,rfl,?_⟩
 have n_:=an_ (qa_ (pk_ a.out) hb)<|an_ (qa_ (pk_ b.out) hb)<|D (qd_ (pB_ HB.out) hb)
 clear a b HB
 obtain ⟨a,b,HB⟩:=n_
 (try clear hb)
 (try clear M)
 (try clear hk)
 (try clear hi)
 refine hK.out _ _ ⟨bc_ a.out 0,(bc_ a.out 1),(bc_ a.out 2)⟩ (fun hHeld=>?_)
 clear hK K
 refine nx_ (N:=some 8) ?_
 refine oa_ 7 12 14 2047 HT_ (fun K hK=>?_)
 obtain ⟨_,hF1_,hF2_,hF3_⟩:=hq1.out
 refine goesV_ hF1_ hF2_ hF3_ #[I L g] (cp:=o) (by rfl) rfl rfl Z93 Z24 ?_
 with_reducible refine (HP1_83.out g q _ ?side1 P.out).mono ?_
 (case side1=>exact pB_ HB.out)
 rintro e ae ⟨rfl,hb⟩
 refine ⟨_,rfl,?_⟩
 have n_:=an_ (qa_ (pk_ a.out) hb)<|an_ (qa_ (pk_ b.out) hb)<|D (qd_ (pB_ HB.out) hb)
 clear a b HB
 obtain ⟨a,b,HB⟩:=n_
 (try clear hb)
 (try clear M)
 (try clear hk)
 (try clear hi)
 refine hK.out _ _ ⟨bc_ a.out 0,(bc_ a.out 1),(bc_ a.out 2)⟩ (fun hHeld=>?_)
 clear hK K
 refine nx_ (N:=some 12) ?_
 refine oa_ 11 16 14 4095 HT_ (fun K hK=>?_)
 obtain ⟨_,hF1_,hF2_,hF3_⟩:=hq1.out
 refine goesV_ hF1_ hF2_ hF3_ #[I L j] (cp:=o) (by rfl) rfl rfl Z93 Z24 ?_
 with_reducible refine (HP1_83.out j r _ ?side1 T.out).mono ?_
 (case side1=>exact pB_ HB.out)
 rintro e z ⟨rfl,hb⟩
 refine ⟨_,rfl,?_⟩
 have n_:=an_ (qa_ (pk_ a.out) hb)<|an_ (qa_ (pk_ b.out) hb)<|D (qd_ (pB_ HB.out) hb)
 clear a b HB
 obtain ⟨a,b,HB⟩:=n_
 (try clear hb)
 (try clear M)
 (try clear hk)
 (try clear hi)
 refine hK.out _ _ ⟨bc_ a.out 0,(bc_ a.out 1),(bc_ a.out 2)⟩ (fun hHeld=>?_)
 clear hK K
 refine nx_ (N:=some 16) ?_
 refine pb_ 12 ?_
 refine one_ (i:=13) (N:=none) (bz 14 16383) rfl rfl (qa4_ HT_.out (by kernel_rfl)) (by decide) (fun K hK=>?_)
 have af:z.cell? ⟨c,0,none⟩=some (I L 0):=(bc_ b.out 0)
 have ag:=qj_ b.out 0
 have ah:=l.out
 have ai:=y.out
 have aj:z.cell? ⟨c,1,none⟩=some (I L 0):=(bc_ b.out 1)
 have ak:=qj_ b.out 1
 have al:=l.out
 have am:=y.out
 have an:z.cell? ⟨c,2,none⟩=some (I L 0):=(bc_ b.out 2)
 have ao:=qj_ b.out 2
 have ap:=l.out
 have aq:=y.out
 refine skip_ (w1:=?_) (by rfl) rfl ?_ ?_
 rotate_left
 ·go_simp
  rfl
 refine hK.out _ _ ⟨(cF_ l.out (hHeld.1)),(cF_ l.out (hHeld.2.1)),(cF_ l.out (hHeld.2.2))⟩ (fun hHeld=>?_)
 clear hK K
 refine done_ (qv_ HT_.out (by kernel_rfl)) ?_
 try go_wp2
 refine bodyPost_ret (results_cell_row rfl _ _ c 31 #[I L p,I L q,I L r] (0,0) _ rfl (by exact pP_ b.out) Try.underlying31 rfl (by kernel_rfl)) rfl ?_
 exact ⟨er_,pB_ HB.out⟩
def impl_Dovetail_1.f (a b c d e:Int):Option (Int):=(impl_VecTop.f b c d).bind fun g=>(some (mx a (wrap64 (g - e))))
theorem impl_Dovetail_1.calls (d:Int) (gc1:Nat) (g j k:Int) (gc2:Nat) (c r:Int) (w:World) (hbx1:w.heap[gc1]?=some (.cells #[I L g,I L j,I L k] 31 (0,0))) (hbx2:w.heap[gc2]?=some (.cells #[I L c] 3 (0,0))) (h:impl_Dovetail_1.f d g j k c=some r) :
  Calls Try.prog 84 #[I L d,.pointer (some ⟨gc1,0,none⟩),.pointer (some ⟨gc2,0,none⟩)] w fun e w'=>e=.returned (I L r)∧Below w.heap.size w w':=by
 have hu31:=Try.underlying31
 have a:=D hbx1
 clear hbx1
 have b:=D hbx2
 clear hbx2
 have HB:=D (Below.refl w.heap.size w)
 have H:((impl_VecTop.f g j k).bind fun l=>(some (mx d (wrap64 (l - c)))))=some r:=h
 clear h
 obtain ⟨l,m,H⟩:=bs_.mp H
 (try dsimp only at H)
 have o:=D m
 clear m
 obtain ⟨p,hji5⟩:∃ j_:Int,(mx d (wrap64 (l - c)))=j_:=⟨_,rfl⟩
 replace H:(some p)=some r:=by first | (rw [hji5] at H;exact H) | (simp only [hji5] at H ⊢;exact H)
 (try rw [hji5] at o)
 have hji5_:(if d < (wrap64 (l - c)) then (wrap64 (l - c)) else d)=p:=hji5
 obtain rfl:=Option.some.inj H
 go_enter Try.func84,Try.ntmps84
 try go_wp2
 have n_:=an_ (qi_ a.out)<|an_ (qi_ b.out)<|D (ql_ HB.out)
 clear a b HB
 obtain ⟨a,b,HB⟩:=n_
 refine q1_ (n:=7) (S:=fun w'=>w'.cell? ⟨gc1,0,none⟩=some (I L g)∧w'.cell? ⟨gc1,1,none⟩=some (I L j)∧w'.cell? ⟨gc1,2,none⟩=some (I L k)∧w'.cell? ⟨gc2,0,none⟩=some (I L c)) (ds:=[]) (bz 7 0) (by kernel_rfl) rfl (by kernel_rfl) (bk3_ a.out (bc_ b.out 0)) (fun hHeld=>?_)
 generalize w.drew=q at a b HB hHeld ⊢
 refine px_ (i:=0) (N:=some 5) (bz 7 1) (by kernel_rfl) ?_
 refine tx_ (i:=1) (N:=some 6) (bz 7 3) rfl rfl (by kernel_rfl) hHeld Z89 ?_
 refine tx_ (i:=3) (N:=some 8) (bz 7 11) rfl rfl (by kernel_rfl) hHeld Z89 ?_
 refine one_ (i:=2) (N:=some 7) (bz 7 15) rfl rfl (by kernel_rfl) (by decide) (fun K hK=>?_)
 refine goes_ Try.func51 (by kernel_rfl) rfl #[.agg #[I L g,I L j,I L k]] (by rfl) rfl rfl Z24 ?_
 with_reducible refine (impl_VecTop.calls g j k l _ o.out).mono ?_
 rintro e s ⟨rfl,hb⟩
 refine ⟨_,rfl,?_⟩
 have n_:=an_ (qa_ (pk_ a.out) hb)<|an_ (qa_ (pk_ b.out) hb)<|D (qd_ (pB_ HB.out) hb)
 clear a b HB
 obtain ⟨a,b,HB⟩:=n_
 (try clear hb)
 (try clear t)
 (try clear hk)
 (try clear hi)
 refine hK.out _ _ ⟨bc_ a.out 0,(bc_ a.out 1),(bc_ a.out 2),(bc_ b.out 0)⟩ (fun hHeld=>?_)
 clear hK K
 refine nx_ (N:=some 7) ?_
 refine px_ (i:=4) (N:=some 9) (bz 7 31) (by kernel_rfl) ?_
 refine px_ (i:=5) (N:=some 10) (bz 7 63) (by kernel_rfl) ?_
 refine px_ (i:=6) (N:=some 4) (bz 7 127) (by kernel_rfl) ?_
 refine done_ (by kernel_rfl) ?_
 try go_wp2
 go_ret
 exact ⟨by first | rfl | (simp [qaa_,q9_] <;> rfl) | (simp only [← hji5];first | rfl | (simp [qaa_,q9_] <;> rfl)) | (simp [*,qaa_,q9_] <;> rfl),pB_ HB.out⟩
def impl_Dovetail.f (a b c e:Int):Option (Int×Int×Int):=(impl_TagOk.f a b c).bind fun g=>(if g=true then ((impl_isDelta.f e).bind fun h=>(if h=true then ((impl_Vec_each.f a b c (fun i=>impl_Dovetail_1.f i a b c e)).bind fun d=>(some (d.1,d.2.1,d.2.2))) else (some (0,0,0)))) else (some (0,0,0)))
theorem impl_Dovetail.calls (i j k l v x y:Int) (w:World) (h:impl_Dovetail.f i j k l=some (v,x,y)) :
  Calls Try.prog 57 #[.agg #[I L i,I L j,I L k],I L l] w fun e w'=>e=.returned (.agg #[I L v,I L x,I L y])∧Below w.heap.size w w':=by
 have hu31:=Try.underlying31
 have hmf:∀ (fn:Fn) (first cap:Array Value) (w:World),(Instr.makeFunc fn first cap).run Try.prog w=.ok (.func fn first cap) w:=fun _ _ _ _=>rfl
 have HB:=D (Below.refl w.heap.size w)
 have H:((impl_TagOk.f i j k).bind fun z=>(if z=true then ((impl_isDelta.f l).bind fun q=>(if q=true then ((impl_Vec_each.f i j k (fun A=>impl_Dovetail_1.f A i j k l)).bind fun B=>(some (B.1,B.2.1,B.2.2))) else (some (0,0,0)))) else (some (0,0,0))))=some (v,x,y):=h
 clear h
 obtain ⟨z,E,H⟩:=bs_.mp H
 (try dsimp only at H)
 have G:=D E
 clear E
 by_cases c4:z=true
 ·subst c4
  rw [if_pos rfl] at H;obtain ⟨q,J,H⟩:=bs_.mp H;(try dsimp only at H);have W:=D J;clear J;have K:=D H;clear H;go_enter Try.func57,Try.ntmps57
  go_upto_if 12 with (first|((with_reducible refine qh_ (N:=2) rfl ?_);refine bx_ (N:=2) (cs:=#[I L i,I L j,I L k]) (t:=31) ?_;intro c hg w7 hbox hb;have n_:=an_ (qd_ (pB_ HB.out) hb)<|an_ (hbox)<|an_ (bg_ hg (pB_ HB.out):w.heap.size≤c)<|D (bg_ hg (pB_ HB.out):w.heap.size≤c);clear HB;obtain ⟨HB,a,X,Z⟩:=n_;clear hb hbox hg)|((with_reducible refine qh_ (N:=3) rfl ?_);refine bx_ (N:=3) (cs:=#[I L l]) (t:=3) ?_;intro d hg w8 hbox hb;have n_:=an_ (qa_ (pk_ a.out) hb)<|an_ (qd_ (pB_ HB.out) hb)<|an_ (hbox)<|an_ (bg_ hg (pB_ HB.out):w.heap.size≤d)<|an_ (bg_ hg (pB_ HB.out):w.heap.size≤d)<|an_ (nl_ hg (pk_ a.out):c≠d)<|D (by rw [hg];exact Nat.ne_of_gt (qt_ (pk_ a.out)):d≠c);clear a HB;obtain ⟨a,HB,b,aa,ab,r,s⟩:=n_;clear hb hbox hg)|((with_reducible refine qh_ (N:=4) rfl ?_);refine bx_ (N:=4) (cs:=#[I L 0,I L 0,I L 0]) (t:=31) ?_;intro g hg w9 hbox hb;have n_:=an_ (qa_ (pk_ a.out) hb)<|an_ (qa_ (pk_ b.out) hb)<|an_ (qd_ (pB_ HB.out) hb)<|an_ (hbox)<|an_ (bg_ hg (pB_ HB.out):w.heap.size≤g)<|an_ (bg_ hg (pB_ HB.out):w.heap.size≤g)<|an_ (nl_ hg (pk_ a.out):c≠g)<|an_ (ng_ hg (pk_ a.out):g≠c)<|an_ (nl_ hg (pk_ b.out):d≠g)<|D (by rw [hg];exact Nat.ne_of_gt (qt_ (pk_ b.out)):g≠d);clear a b HB;obtain ⟨a,b,HB,BK547,ac,ad,m,n,o,p⟩:=n_;clear hb hbox hg;(try have:=r.out);(try have:=s.out);(try have:=m.out);(try have:=n.out);obtain ⟨aj,ak,al,am,an,ao⟩:=q0_ a.out)|((with_reducible refine qe_ (f:=78) rfl ?_);refine qp_ (some 6) rfl rfl Try.func78 (by kernel_rfl) rfl #[.agg #[I L i,I L j,I L k]] rfl Z24 ?_;(with_reducible refine (impl_TagOk.calls i j k true _ G.out).mono ?_);rintro e ap ⟨rfl,hb⟩;refine ⟨_,rfl,?_⟩;have n_:=an_ (qa_ (pk_ a.out) hb)<|an_ (qa_ (pk_ b.out) hb)<|an_ (qa_ (pk_ BK547.out) hb)<|D (qd_ (pB_ HB.out) hb);clear a b BK547 HB;obtain ⟨a,b,BK547,HB⟩:=n_;(try clear hb);(try have:=o.out);(try have:=p.out);obtain ⟨aq,ar⟩:=cells1 b.out)|(go_at_call 82;(with_reducible refine (impl_isDelta.calls l q _ W.out).mono ?_);rintro e w' ⟨rfl,⟨nd,rfl⟩⟩))
  have H:=K.out;clear K
  by_cases u:q=true
  ·subst u
   rw [if_pos rfl] at H;obtain ⟨⟨M,O,P⟩,T,H⟩:=bs_.mp H;(try dsimp only at H);have ae:=D T;clear T;simp only [Option.some.injEq,Prod.mk.injEq] at H;obtain ⟨rfl,rfl,rfl⟩:=H;(try have:=r.out);(try have:=s.out);(try have:=m.out);(try have:=n.out);obtain ⟨au,av,aw,ax,ay,az⟩:=q0_ a.out
   go_wp2_with (first|((with_reducible refine qe_ (f:=83) rfl ?_);refine qp_ (some 16) rfl rfl Try.func83 (by kernel_rfl) rfl #[.agg #[I L i,I L j,I L k],.func (.func 84) #[] #[.pointer (some ⟨c,0,none⟩),.pointer (some ⟨d,0,none⟩)]] rfl Z24 ?_;(with_reducible refine (impl_Vec_each.calls i j k (fun A=>impl_Dovetail_1.f A i j k l) 84 #[.pointer (some ⟨c,0,none⟩),.pointer (some ⟨d,0,none⟩)] M O P _ ?side1 ?side2 ae.out).mono ?_);(case side1=>exact ⟨⟨_,Try.func84,by kernel_rfl,rfl⟩⟩);(case side2=>refine ⟨?_⟩;intro U af W_ hW_ h_;refine qbb_ (args':=#[I L U,.pointer (some ⟨c,0,none⟩),.pointer (some ⟨d,0,none⟩)]) (by simp) ?_;refine (impl_Dovetail_1.calls U c i j k d l af W_ (qa_ (pk_ a.out) hW_) (qa_ (pk_ b.out) hW_) h_).mono ?_;rintro e w' ⟨rfl,hd_⟩;exact ⟨rfl,hd_⟩);rintro e aA ⟨rfl,hb⟩;refine ⟨_,rfl,?_⟩;have n_:=an_ (qa_ (pk_ a.out) hb)<|an_ (qa_ (pk_ b.out) hb)<|an_ (qa_ (pk_ BK547.out) hb)<|D (qd_ (pB_ HB.out) hb);clear a b BK547 HB;obtain ⟨a,b,BK547,HB⟩:=n_;(try clear hb);(try have:=p.out);(try have:=o.out);obtain ⟨aB,aC,aD,aE,aF,aG⟩:=q0_ BK547.out))
   refine bodyPost_ret (results_cell_row rfl _ _ g 31 #[I L M,I L O,I L P] (0,0) _ rfl (by exact pP_ BK547.out) Try.underlying31 rfl (by kernel_rfl)) rfl ?_;exact ⟨er_,pB_ HB.out⟩
  ·replace u:=Bool.eq_false_iff.mpr u
   subst u;rw [if_neg (show ¬ (false=true) by decide)] at H;simp only [Option.some.injEq,Prod.mk.injEq] at H;obtain ⟨rfl,rfl,rfl⟩:=H;(try have:=n.out);(try have:=m.out);(try have:=p.out);(try have:=o.out);obtain ⟨aH,aI,aJ,aK,aL,aM⟩:=q0_ BK547.out
   go_wp2
   refine bodyPost_ret (results_cell_row rfl _ _ g 31 #[I L 0,I L 0,I L 0] (0,0) _ rfl Z8 Try.underlying31 rfl (by kernel_rfl)) rfl ?_;exact ⟨er_,pB_ HB.out⟩
 ·replace c4:=Bool.eq_false_iff.mpr c4
  subst c4;rw [if_neg (show ¬ (false=true) by decide)] at H;simp only [Option.some.injEq,Prod.mk.injEq] at H;obtain ⟨rfl,rfl,rfl⟩:=H;go_enter Try.func57,Try.ntmps57
  go_wp2_with (first|((with_reducible refine qh_ (N:=2) rfl ?_);refine bx_ (N:=2) (cs:=#[I L i,I L j,I L k]) (t:=31) ?_;intro c hg aN hbox hb;have n_:=an_ (qd_ (pB_ HB.out) hb)<|an_ (hbox)<|an_ (bg_ hg (pB_ HB.out):w.heap.size≤c)<|D (bg_ hg (pB_ HB.out):w.heap.size≤c);clear HB;obtain ⟨HB,a,X,Z⟩:=n_;clear hb hbox hg)|((with_reducible refine qh_ (N:=3) rfl ?_);refine bx_ (N:=3) (cs:=#[I L l]) (t:=3) ?_;intro d hg aO hbox hb;have n_:=an_ (qa_ (pk_ a.out) hb)<|an_ (qd_ (pB_ HB.out) hb)<|an_ (hbox)<|an_ (bg_ hg (pB_ HB.out):w.heap.size≤d)<|an_ (bg_ hg (pB_ HB.out):w.heap.size≤d)<|an_ (nl_ hg (pk_ a.out):c≠d)<|D (by rw [hg];exact Nat.ne_of_gt (qt_ (pk_ a.out)):d≠c);clear a HB;obtain ⟨a,HB,b,aa,ab,r,s⟩:=n_;clear hb hbox hg)|((with_reducible refine qh_ (N:=4) rfl ?_);refine bx_ (N:=4) (cs:=#[I L 0,I L 0,I L 0]) (t:=31) ?_;intro g hg aP hbox hb;have n_:=an_ (qa_ (pk_ a.out) hb)<|an_ (qa_ (pk_ b.out) hb)<|an_ (qd_ (pB_ HB.out) hb)<|an_ (hbox)<|an_ (bg_ hg (pB_ HB.out):w.heap.size≤g)<|an_ (bg_ hg (pB_ HB.out):w.heap.size≤g)<|an_ (nl_ hg (pk_ a.out):c≠g)<|an_ (ng_ hg (pk_ a.out):g≠c)<|an_ (nl_ hg (pk_ b.out):d≠g)<|D (by rw [hg];exact Nat.ne_of_gt (qt_ (pk_ b.out)):g≠d);clear a b HB;obtain ⟨a,b,HB,BK547,ac,ad,m,n,o,p⟩:=n_;clear hb hbox hg;(try have:=r.out);(try have:=s.out);(try have:=m.out);(try have:=n.out);obtain ⟨aQ,aR,aS,aT,aU,aV⟩:=q0_ a.out)|((with_reducible refine qe_ (f:=78) rfl ?_);refine qp_ (some 6) rfl rfl Try.func78 (by kernel_rfl) rfl #[.agg #[I L i,I L j,I L k]] rfl Z24 ?_;(with_reducible refine (impl_TagOk.calls i j k false _ G.out).mono ?_);rintro e aW ⟨rfl,hb⟩;refine ⟨_,rfl,?_⟩;have n_:=an_ (qa_ (pk_ a.out) hb)<|an_ (qa_ (pk_ b.out) hb)<|an_ (qa_ (pk_ BK547.out) hb)<|D (qd_ (pB_ HB.out) hb);clear a b BK547 HB;obtain ⟨a,b,BK547,HB⟩:=n_;(try clear hb);(try have:=p.out);(try have:=o.out);obtain ⟨aX,aY,aZ,a0,a2,a3⟩:=q0_ BK547.out))
  refine bodyPost_ret (results_cell_row rfl _ _ g 31 #[I L 0,I L 0,I L 0] (0,0) _ rfl Z8 Try.underlying31 rfl (by kernel_rfl)) rfl ?_;exact ⟨er_,pB_ HB.out⟩
end Go.Proofs.Ytjhgkonacdimfac.PFnExactTreeServe
