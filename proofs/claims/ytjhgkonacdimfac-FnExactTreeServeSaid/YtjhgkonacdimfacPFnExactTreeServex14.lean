-- by a program of this session's, over the kit's words
import Derived.Test.YtjhgkonacdimfacPZFnExactTreeServe
import Derived.Test.YtjhgkonacdimfacPFnExactTreeServex0
import Derived.Test.YtjhgkonacdimfacPFnExactTreeServex13
namespace Go.Proofs.Ytjhgkonacdimfac.PFnExactTreeServe
open Go.RowKit Go.Proofs.YtjhgkonacdimfacW.PrintWords Go.Proofs.YtjhgkonacdimfacW.PrintLast Go.Proofs.YtjhgkonacdimfacW.PrintMore Go.Proofs.YtjhgkonacdimfacV Go.Proofs.Ytjhgkonacdimfac.ZFnExactTreeServe
open Go.Value renaming int → I, slice → Y
open Go.IntKind renaming i64 → L
open Aside0 renaming mk → D
open Option renaming bind_eq_some_iff → bs_
attribute [local go_sem] qam_ qak_ qaw_ qav_ qae_ qad_ qal_ qaj_
set_option linter.unusedVariables false
set_option linter.unusedSimpArgs false
set_option maxHeartbeats 8000000
set_option maxRecDepth 100000
def impl_Fair_at.f (k:Nat) (l m n o:Int) (a:List (S75)) (b:Int):Option (Int):=(slices_IndexFunc_impl_Kid_impl_Kid.f k a (fun c d e g h i=>impl_Fair_at_1.f c d e g h i b)).bind fun j=>(some j)
theorem impl_Fair_at.calls (k:Nat) (m n o p:Int) (g:Option Addr) (i:Nat) (a:List (S75)) (d r:Int) (w:World) (A:Kd.C k75 w g a.length a) (B:a.length≤i) (h:impl_Fair_at.f k m n o p a d=some r) :
  Calls Try.prog 52 #[.agg #[I L m,I L n,I L o,I L p,Y g a.length i],I L d] w fun e w'=>e=.returned (I L r)∧Below w.heap.size w w':=by
 have hu34:=Try.underlying34
 have hmf:∀ (fn:Fn) (first cap:Array Value) (w:World),(Instr.makeFunc fn first cap).run Try.prog w=.ok (.func fn first cap) w:=fun _ _ _ _=>rfl
 have T:=D A
 have U:=D B
 clear A B
 have HB:=D (Below.refl w.heap.size w)
 have H:((slices_IndexFunc_impl_Kid_impl_Kid.f k a (fun q s u v x y=>impl_Fair_at_1.f q s u v x y d)).bind fun z=>(some z))=some r:=h
 clear h
 obtain ⟨z,E,H⟩:=bs_.mp H
 (try dsimp only at H)
 have W:=D E
 clear E
 obtain rfl:=Option.some.inj H
 go_enter Try.func52,Try.ntmps52
 go_wp2_with (first|((with_reducible refine qh_ (N:=2) rfl ?_);refine bx_ (N:=2) (cs:=#[I L m,I L n,I L o,I L p,Y g a.length i]) (t:=34) ?_;intro j hg w4 hbox hb;have n_:=an_ (qd_ (pB_ HB.out) hb)<|an_ (hbox)<|an_ (bg_ hg (pB_ HB.out):w.heap.size≤j)<|D (bg_ hg (pB_ HB.out):w.heap.size≤j);clear HB;obtain ⟨HB,b,ac,ad⟩:=n_;clear hb hbox hg)|((with_reducible refine qh_ (N:=3) rfl ?_);refine bx_ (N:=3) (cs:=#[I L d]) (t:=3) ?_;intro c hg w5 hbox hb;have n_:=an_ (qa_ (pk_ b.out) hb)<|an_ (qd_ (pB_ HB.out) hb)<|an_ (hbox)<|an_ (bg_ hg (pB_ HB.out):w.heap.size≤c)<|an_ (bg_ hg (pB_ HB.out):w.heap.size≤c)<|an_ (nl_ hg (pk_ b.out):j≠c)<|D (by rw [hg];exact Nat.ne_of_gt (qt_ (pk_ b.out)):c≠j);clear b HB;obtain ⟨b,HB,l,af,ag,X,Z⟩:=n_;clear hb hbox hg;(try have:=X.out);(try have:=Z.out);obtain ⟨ah,ai,aj,ak,al,am,an,ao,ap,aq⟩:=qx_ b.out)|((with_reducible refine qe_ (f:=73) rfl ?_);refine qp_ (some 8) rfl rfl Try.func73 (by kernel_rfl) rfl #[Y g a.length i,.func (.func 74) #[] #[.pointer (some ⟨c,0,none⟩)]] rfl Z24 ?_;(with_reducible refine (slices_IndexFunc_impl_Kid_impl_Kid.calls k _ _ a (fun q s u v x y=>impl_Fair_at_1.f q s u v x y d) 74 #[.pointer (some ⟨c,0,none⟩)] z _ ?side1 ?side2 ?side3 ?side4 W.out).mono ?_);(case side1=>exact pC_ (Kd.C_below T.out HB.out));(case side2=>exact U.out);(case side3=>exact ⟨⟨_,Try.func74,by kernel_rfl,rfl⟩⟩);(case side4=>refine ⟨?_⟩;intro G J K M O P aa W_ hW_ h_;refine qbb_ (args':=#[.agg #[I L G,I L J,.bool K,I L M,I L O,I L P],.pointer (some ⟨c,0,none⟩)]) (by simp) ?_;refine (impl_Fair_at_1.calls G J K M O P c d aa W_ (qa_ (pk_ l.out) hW_) h_).mono ?_;rintro e w' ⟨rfl,hd_⟩;exact ⟨rfl,hd_⟩);rintro e w8 ⟨rfl,hb⟩;refine ⟨_,rfl,?_⟩;have n_:=an_ (qa_ (pk_ b.out) hb)<|an_ (qa_ (pk_ l.out) hb)<|D (qd_ (pB_ HB.out) hb);clear b l HB;obtain ⟨b,l,HB⟩:=n_;(try clear hb)))
 go_ret
 exact ⟨er_,pB_ HB.out⟩
def slices_Clone_impl_Kid_impl_Kid.f (l0:List (S75)):Option ((List (S75))):=(some (([]:List (S75)):List (S75))).bind fun a=>(if a.length+l0.length < 2932031007402 then (some (a ++ l0)) else (none))
theorem slices_Clone_impl_Kid_impl_Kid.calls (j:Option Addr) (k:Nat) (l0 r:List (S75)) (w:World) (l:Kd.C k75 w j l0.length l0) (o:l0.length≤k) (h:slices_Clone_impl_Kid_impl_Kid.f l0=some r) :
  Calls Try.prog 75 #[Y j l0.length k] w fun e w'=>∃ p:Value,e=.returned (p)∧Kd.R k75 75 w' w.heap.size (fun _=>True) p r∧Below w.heap.size w w':=by
 have s:=D l
 have M:=D o
 clear l o
 have HB:=D (Below.refl w.heap.size w)
 have H:((some (([]:List (S75)):List (S75))).bind fun a=>(if a.length+l0.length < 2932031007402 then (some (a ++ l0)) else (none)))=some r:=h
 clear h
 by_cases hA_:j=none
 ·subst hA_
  have hl_:=List.length_eq_zero_iff.1 (nil_len s.out);subst hl_
  have H:some ([]:List (S75))=some r:=by simpa using H
  obtain rfl:=Option.some.inj H;go_enter Try.func75,Try.ntmps75
  go_wp2_with (first|((with_reducible refine qh_ (N:=4) rfl ?_);refine isnil_event ?hg (N:=4) ?hd (t:=32) (u:=32) (e:=75) (x:=.tmp 3) (y:=.const (Y none 0 0)) ?ho (A:=none) (n:=0) (c:=k) (m:=0) (q:=0) ?hx ?hy Try.underlying32 (b:=true) rfl ?_;(case hd=>rfl);(case hg=>rfl);(case ho=>rfl);(case hx=>rfl);(case hy=>rfl)))
  go_ret;exact ⟨_,er_,by first|exact Kd.R_nil _ _ _ _ _|exact Kd.N_nil _ _ _ _ _|exact Kd.V_nil _ _ _ _ _|exact Kd.Q_nil _ _ _ _ _|exact Kd.S_nil _ _ _ _ _,pB_ HB.out⟩
 ·have hA1_:=none_no hA_
  obtain ⟨a,d⟩:∃ y_:List (S75),y_=(([]:List (S75))):=⟨_,rfl⟩
  replace H:(if a.length+l0.length < 2932031007402 then (some (a ++ l0)) else (none))=some r:=by first|(rw [d];with_reducible exact H)|(have H2_:=(Option.bind_some _ _).symm.trans H;rw [d];with_reducible exact H2_)|(have H2_:=(Option.bind_some _ _).symm.trans H;with_reducible exact H2_)|with_reducible exact H|(rw [d];exact H)|exact H
  have v:=D d;clear d
  by_cases c2:a.length+l0.length < 2932031007402
  ·rw [if_pos c2] at H
   have B:=D c2;clear c2;obtain ⟨E,g⟩:∃ y_:List (S75),y_=(a ++ l0):=⟨_,rfl⟩
   replace H:(some E)=some r:=by first|(rw [g];with_reducible exact H)|(have H2_:=(Option.bind_some _ _).symm.trans H;rw [g];with_reducible exact H2_)|(have H2_:=(Option.bind_some _ _).symm.trans H;with_reducible exact H2_)|with_reducible exact H|(rw [g];exact H)|exact H
   have G:=D g;clear g;obtain rfl:=Option.some.inj H;go_enter Try.func75,Try.ntmps75
   go_wp2_with (first|((with_reducible refine qh_ (N:=4) rfl ?_);refine isnil_event ?hg (N:=4) ?hd (t:=32) (u:=32) (e:=75) (x:=.tmp 3) (y:=.const (Y none 0 0)) ?ho (A:=j) (n:=l0.length) (c:=k) (m:=0) (q:=0) ?hx ?hy Try.underlying32 (b:=false) hA1_ ?_;(case hd=>rfl);(case hg=>rfl);(case ho=>rfl);(case hx=>rfl);(case hy=>rfl))|((with_reducible refine qh_ (N:=5) rfl ?_);refine Kd.R_lit k75 _ 75 ?hg (N:=5) ?hd (xs:=([]:List (S75))) (inner:=[]) (ok:=fun _=>True) (okp:=fun _=>True) ?hr ?hp (fun _ hk=>hk) trivial (Below.refl _ _) (Nat.le_refl _) (by simp) ?_;(case hd=>rfl);(case hg=>rfl);(case hr=>first|(go_simp;done)|(go_simp;rfl));(case hp=>exact (Reps.none _ _));intro J O i hb hg_ hnew_;clear hg_ hnew_;(first|rw [← v.out] at i|(simp only [Int.reduceToNat] at i;rw [← v.out] at i));have n_:=an_ (Kd.R_lower i (qk_ (pB_ HB.out)))<|D (qd_ (pB_ HB.out) hb);clear HB;obtain ⟨z,HB⟩:=n_;clear hb i)|((with_reducible refine gate_builtin (b:=.append) (xs:=#[.tmp 5,.tmp 6]) rfl ?_);at_builtin;refine Kd.R_append_rows k75 (w0:=w) w.heap.size rfl (.tmp 5) (.tmp 6) 32 75 (.agg #[(I L 0),(I L 0),(.bool false),(I L 0),(I L 0),(I L 0)]) 48 rfl Try.underlying32 info75 rfl (by decide) (by omega) J a l0 _ _ _ (fun _=>True) (fun _=>False) rfl rfl ?aO ?aR (fun _ _ h=>h) (fun _ h=>h.elim) ?aF ?aB ?aS ?aL ?_;(case aR=>exact pC_ (Kd.C_below s.out HB.out));(case aB=>exact (pB_ HB.out));(case aF=>exact (fun _ _=>trivial));(case aO=>exact (pR_ z.out));(case aS=>exact (qk_ (pB_ HB.out)));(case aL=>have:=B.out;omega);intro P T ho hb hg hat;rw [← G.out] at ho;have n_:=an_ (hb)<|D (ho);clear HB z;obtain ⟨HB,K⟩:=n_;clear ho hb hg hat))
   go_ret;exact ⟨_,er_,by (with_reducible repeat (first|apply Kd.R_alloc|apply Kd.R_drewN|apply Kd.R_drew));exact K.out,pB_ HB.out⟩
  ·rw [if_neg c2] at H
   exact absurd H (by simp)
def impl_copyFair.f (a b c d:Int) (e:List (S75)):Option (Int×Int×Int×Int×(List (S75))):=(slices_Clone_impl_Kid_impl_Kid.f e).bind fun g=>(some (a,b,c,d,g))
def impl_copyFair.T1:Bool×List (List Nat×List Nat):=(true,[([],[]),([0],[0]),([],[]),([2],[2]),([],[]),([4],[4]),([5],[5]),([1,3,6],[1,3,6]),([7,6,0,1,2,3,4,5,6,7],[7])])
def impl_copyFair.B1:List Nat:=[0,1,0,4,0,16,48,127,255]
theorem impl_copyFair.tab1:rtab .any (opsOf Try.f54 1)=impl_copyFair.T1:=by kernel_rfl
theorem impl_copyFair.bits1:q3_ impl_copyFair.T1.2 impl_copyFair.B1=true:=by kernel_rfl
theorem impl_copyFair.calls (k l m o:Int) (p:Option Addr) (q:Nat) (c:List (S75)) (v x y z:Int) (A:List (S75)) (w:World) (B:Kd.C k75 w p c.length c) (E:c.length≤q) (h:impl_copyFair.f k l m o c=some (v,x,y,z,A)) :
  Calls Try.prog 54 #[.agg #[I L k,I L l,I L m,I L o,Y p c.length q]] w fun e w'=>∃ G:Value,e=.returned (.agg #[I L v,I L x,I L y,I L z,G])∧Kd.R k75 75 w' w.heap.size (fun _=>True) G A∧Below w.heap.size w w':=by
 have hu34:=Try.underlying34
 have hu31:=Try.underlying31
 have T:=D B
 have U:=D E
 clear B E
 have HB:=D (Below.refl w.heap.size w)
 have H:((slices_Clone_impl_Kid_impl_Kid.f c).bind fun r=>(some (k,l,m,o,r)))=some (v,x,y,z,A):=h
 clear h
 obtain ⟨r,J,H⟩:=bs_.mp H
 (try dsimp only at H)
 have W:=D J
 clear J
 simp only [Option.some.injEq,Prod.mk.injEq] at H
 obtain ⟨rfl,rfl,rfl,rfl,rfl⟩:=H
 go_enter Try.func54,Try.ntmps54
 try go_wp2_with (first|((with_reducible refine qh_ (N:=1) rfl ?_);refine bx_ (N:=1) (cs:=#[I L k,I L l,I L m,I L o,Y p c.length q]) (t:=34) ?_;intro j hg Z hbox hb;have n_:=an_ (qd_ (pB_ HB.out) hb)<|an_ (hbox)<|an_ (bg_ hg (pB_ HB.out):w.heap.size≤j)<|D (bg_ hg (pB_ HB.out):w.heap.size≤j);clear HB;obtain ⟨HB,b,aa,ab⟩:=n_;clear hb hbox hg)|((with_reducible refine qh_ (N:=2) rfl ?_);refine bx_ (N:=2) (cs:=#[I L 0,I L 0,I L 0,I L 0,Y none 0 0]) (t:=34) ?_;intro d hg X hbox hb;have n_:=an_ (qa_ (pk_ b.out) hb)<|an_ (qd_ (pB_ HB.out) hb)<|an_ (hbox)<|an_ (bg_ hg (pB_ HB.out):w.heap.size≤d)<|an_ (bg_ hg (pB_ HB.out):w.heap.size≤d)<|an_ (nl_ hg (pk_ b.out):j≠d)<|D (by rw [hg];exact Nat.ne_of_gt (qt_ (pk_ b.out)):d≠j);clear b HB;obtain ⟨b,HB,a,ac,ad,g,s⟩:=n_;clear hb hbox hg))
 have n_:=an_ (qi_ b.out)<|an_ (qi_ a.out)<|D (ql_ HB.out)
 clear b a HB
 obtain ⟨b,a,HB⟩:=n_
 refine q1_ (n:=9) (S:=fun w'=>w'.cell? ⟨j,0,none⟩=some (I L k)∧w'.cell? ⟨j,1,none⟩=some (I L l)∧w'.cell? ⟨j,2,none⟩=some (I L m)∧w'.cell? ⟨j,3,none⟩=some (I L o)∧w'.cell? ⟨j,4,none⟩=some (Y p c.length q)) (ds:=[]) (bz 9 0) (by kernel_rfl) rfl (by kernel_rfl) (be5_ b.out) (fun hHeld=>?_);refine qn_ impl_copyFair.tab1 impl_copyFair.bits1 (fun HT_ HW_=>?_)
 generalize X.drew=w5 at b a HB hHeld ⊢
 refine pb_ 0 ?_
 refine pb_ 2 ?_
 refine pb_ 4 ?_
 refine tb_ 1 rfl rfl hHeld Z88 ?_
 refine tb_ 3 rfl rfl hHeld Z88 ?_
 refine tb_ 5 rfl rfl hHeld Z88 ?_
 refine oa_ 6 9 9 127 HT_ (fun K hK=>?_)
 refine goes_ Try.func75 (by kernel_rfl) rfl #[Y p c.length q] (by rfl) rfl rfl Z24 ?_
 with_reducible refine (slices_Clone_impl_Kid_impl_Kid.calls _ _ c r _ ?side1 ?side2 W.out).mono ?_
 (case side1=>exact pC_ (Kd.C_below T.out HB.out))
 (case side2=>exact U.out)
 rintro e u ⟨af,rfl,M,hb⟩
 refine ⟨_,rfl,?_⟩
 have n_:=an_ (Kd.R_lower M (qk_ (pB_ HB.out)))<|an_ (qa_ (pk_ b.out) hb)<|an_ (qa_ (pk_ a.out) hb)<|D (qd_ (pB_ HB.out) hb)
 clear b a HB
 obtain ⟨O,b,a,HB⟩:=n_
 (try clear hb)
 (try clear ag)
 (try clear hk)
 (try clear hi)
 (try clear M)
 obtain ⟨Ao7,co7,P⟩:=Kd.R_slice O.out
 (first | subst P | obtain ⟨rfl,rfl⟩:=qag_ P)
 refine hK.out _ _ (be5_ b.out) (fun hHeld=>?_)
 clear hK K
 refine nx_ (N:=some 9) ?_
 refine pb_ 7 ?_
 refine one_ (i:=8) (N:=none) (bz 9 511) rfl rfl (qa4_ HT_.out (by kernel_rfl)) (by decide) (fun K hK=>?_)
 have ah:u.cell? ⟨d,0,none⟩=some (I L 0):=(bc_ a.out 0)
 have ai:=qj_ a.out 0
 have aj:=g.out
 have ak:=s.out
 have al:u.cell? ⟨d,1,none⟩=some (I L 0):=(bc_ a.out 1)
 have am:=qj_ a.out 1
 have an:=g.out
 have ao:=s.out
 have ap:u.cell? ⟨d,2,none⟩=some (I L 0):=(bc_ a.out 2)
 have aq:=qj_ a.out 2
 have ar:=g.out
 have au:=s.out
 have av:u.cell? ⟨d,3,none⟩=some (I L 0):=(bc_ a.out 3)
 have aw:=qj_ a.out 3
 have ax:=g.out
 have ay:=s.out
 have az:u.cell? ⟨d,4,none⟩=some (Y none 0 0):=(bc_ a.out 4)
 have aA:=qj_ a.out 4
 have aB:=g.out
 have aC:=s.out
 refine skip_ (w1:=?_) (by rfl) rfl ?_ ?_
 rotate_left
 ·go_simp
  rfl
 refine hK.out _ _ ⟨(cF_ g.out (hHeld.1)),(cF_ g.out (hHeld.2.1)),(cF_ g.out (hHeld.2.2.1)),(cF_ g.out (hHeld.2.2.2.1)),(cF_ g.out (hHeld.2.2.2.2))⟩ (fun hHeld=>?_)
 clear hK K
 refine done_ (qv_ HT_.out (by kernel_rfl)) ?_
 try go_wp2
 refine bodyPost_ret (results_cell_row rfl _ _ d 34 #[I L k,I L l,I L m,I L o,Y Ao7 r.length co7] (0,0) _ rfl (by exact pP_ a.out) Try.underlying34 rfl (by kernel_rfl)) rfl ?_
 exact ⟨_,er_,by (with_reducible repeat (first|apply Kd.R_alloc|apply Kd.R_drewN|apply Kd.R_drew));exact Kd.R_mono (fr_ (fr_ (fr_ (fr_ (fr_ (Kd.R_types O.out a.out (by decide)) 0 (I L k)) 1 (I L l)) 2 (I L m)) 3 (I L o)) 4 (Y Ao7 r.length co7)) (fun _ hk=>trivial),pB_ HB.out⟩
def impl_copyTree.l0:Nat→List (S54)→Int→Int→Int→Int→Int→Int→List (S75)→List (S54)→Option (Int×Int×Int×Int×(List (S75))×(List (S54)))
 | 0,_,_,_,_,_,_,_,_,_=>none
 | k+1,b,e,a,g,h,i,j,l,d=>if a < e then (if 0≤a then (if a < (b.length:Int) then ((impl_copyFair.f ((qc_ b a).f1.f0) ((qc_ b a).f1.f1.f0) ((qc_ b a).f1.f1.f1) ((qc_ b a).f1.f1.f2) ((qc_ b a).f1.f2)).bind fun c=>(if d.length < 2199023255552 then (impl_copyTree.l0 k b e (wrap64 (a+1)) g h i j l (d ++ [(⟨(qc_ b a).f0,(⟨c.1,(⟨c.2.1,c.2.2.1,c.2.2.2.1⟩:S31),c.2.2.2.2⟩:S34)⟩:S54)])) else (none))) else (none)) else (none)) else (some (g,h,i,j,l,d))
def impl_copyTree.f (k:Nat) (b c d e:Int) (g:List (S75)) (l0_5:List (S54)):Option (Int×Int×Int×Int×(List (S75))×(List (S54))):=(impl_copyFair.f b c d e g).bind fun a=>(impl_copyTree.l0 k l0_5 (l0_5.length:Int) 0 a.1 a.2.1 a.2.2.1 a.2.2.2.1 a.2.2.2.2 ([]:List (S54)))
def impl_copyTree.T5:Bool×List (List Nat×List Nat):=(true,[([],[]),([0],[0]),([],[]),([2],[2]),([],[]),([4],[4]),([5],[5]),([3,6],[3,6]),([7],[7]),([1,8,6],[1,8]),([0,1,2,3,4,5,6,7,8,9],[]),([10,9,9,0,1,2,3,4,5,6,7,8,9],[9,10])])
def impl_copyTree.B5:List Nat:=[0,1,0,4,0,16,48,124,252,511,1023,2047]
theorem impl_copyTree.tab5:rtab .any (opsOf Try.f53 5)=impl_copyTree.T5:=by kernel_rfl
theorem impl_copyTree.bits5:q3_ impl_copyTree.T5.2 impl_copyTree.B5=true:=by kernel_rfl
theorem impl_copyTree.calls (k:Nat) (d g j l:Int) (o:Option Addr) (q:Nat) (a:List (S75)) (M:Option Addr) (u:Nat) (l0_5:List (S54)) (x y z A:Int) (B:List (S75)) (E:List (S54)) (w:World) (ah:Kd.C k75 w o a.length a) (ai:a.length≤q) (aj:Kd.C k54 w M l0_5.length l0_5) (ak:l0_5.length≤u) (h:impl_copyTree.f k d g j l a l0_5=some (x,y,z,A,B,E)) :
  Calls Try.prog 53 #[.agg #[I L d,I L g,I L j,I L l,Y o a.length q,Y M l0_5.length u]] w fun e w'=>∃ U al:Value,e=.returned (.agg #[I L x,I L y,I L z,I L A,U,al])∧Kd.R k75 75 w' w.heap.size (fun _=>True) U B∧Kd.S k54 54 w' w.heap.size (fun k_=>some k_≠(U:Value).ownBlock) al E∧Below w.heap.size w w':=by
 have hu37:=Try.underlying37
 have hu34:=Try.underlying34
 have hu54:=Try.underlying54
 have aD:=D ah
 have aE:=D ai
 clear ah ai
 have aG:=D aj
 have aZ:=D ak
 clear aj ak
 have HB:=D (Below.refl w.heap.size w)
 have H:((impl_copyFair.f d g j l a).bind fun G=>(impl_copyTree.l0 k l0_5 (l0_5.length:Int) 0 G.1 G.2.1 G.2.2.1 G.2.2.2.1 G.2.2.2.2 ([]:List (S54))))=some (x,y,z,A,B,E):=h
 clear h
 obtain ⟨⟨Ub,Jc,Kc,Xc,Mb⟩,am,H⟩:=bs_.mp H
 (try dsimp only at H)
 have A2:=D am
 clear am
 have H':=D H
 clear H
 go_enter Try.func53,Try.ntmps53
 go_wp2_with (first|((with_reducible refine qh_ (N:=1) rfl ?_);refine bx_ (N:=1) (cs:=#[I L d,I L g,I L j,I L l,Y o a.length q,Y M l0_5.length u]) (t:=37) ?_;intro Ob hg w3 hbox hb;have n_:=an_ (qd_ (pB_ HB.out) hb)<|an_ (hbox)<|an_ (bg_ hg (pB_ HB.out):w.heap.size≤Ob)<|D (bg_ hg (pB_ HB.out):w.heap.size≤Ob);clear HB;obtain ⟨HB,Oa,Jp,Kp⟩:=n_;clear hb hbox hg)|((with_reducible refine qh_ (N:=2) rfl ?_);refine bx_ (N:=2) (cs:=#[I L 0,I L 0,I L 0,I L 0,Y none 0 0,Y none 0 0]) (t:=37) ?_;intro Mc hg w4 hbox hb;have n_:=an_ (qa_ (pk_ Oa.out) hb)<|an_ (qd_ (pB_ HB.out) hb)<|an_ (hbox)<|an_ (bg_ hg (pB_ HB.out):w.heap.size≤Mc)<|an_ (bg_ hg (pB_ HB.out):w.heap.size≤Mc)<|an_ (nl_ hg (pk_ Oa.out):Ob≠Mc)<|D (by rw [hg];exact Nat.ne_of_gt (qt_ (pk_ Oa.out)):Mc≠Ob);clear Oa HB;obtain ⟨Oa,HB,Xa,Mp,Op,Og,Ug⟩:=n_;clear hb hbox hg;(try have:=Og.out);(try have:=Ug.out);obtain ⟨Oh,Uh,Xh,Ji,Ki,Mi,Oi,Ui,Xi,Jj,Kj,Mj⟩:=qm_ Oa.out)|((with_reducible refine qe_ (f:=54) rfl ?_);refine qp_ (some 8) rfl rfl Try.func54 (by kernel_rfl) rfl #[.agg #[I L d,I L g,I L j,I L l,Y o a.length q]] rfl Z24 ?_;(with_reducible refine (impl_copyFair.calls d g j l _ _ a Ub Jc Kc Xc Mb _ ?side1 ?side2 A2.out).mono ?_);(case side1=>exact pC_ (Kd.C_below aD.out HB.out));(case side2=>exact aE.out);rintro e w7 ⟨Up,rfl,r,hb⟩;refine ⟨_,rfl,?_⟩;have n_:=an_ (Kd.R_lower r (qk_ (pB_ HB.out)))<|an_ (qa_ (pk_ Oa.out) hb)<|an_ (qa_ (pk_ Xa.out) hb)<|D (qd_ (pB_ HB.out) hb);clear Oa Xa HB;obtain ⟨Oe,Oa,Xa,HB⟩:=n_;(try clear hb);(try clear r);obtain ⟨Oc,Uc,aI⟩:=Kd.R_slice Oe.out;subst aI)|((with_reducible refine qh_ (N:=3) rfl ?_);refine bx_ (N:=3) (cs:=#[I L 0,I L 0,I L 0,I L 0,Y none 0 0,Y none 0 0]) (t:=37) ?_;intro Jb hg w9 hbox hb;have n_:=an_ (Kd.R_below (pR_ Oe.out) hb)<|an_ (qa_ (pk_ Oa.out) hb)<|an_ (qa_ (pk_ Xa.out) hb)<|an_ (qd_ (pB_ HB.out) hb)<|an_ (hbox)<|an_ (bg_ hg (pB_ HB.out):w.heap.size≤Jb)<|an_ (bg_ hg (pB_ HB.out):w.heap.size≤Jb)<|an_ (nl_ hg (pk_ Oa.out):Ob≠Jb)<|an_ (ng_ hg (pk_ Oa.out):Jb≠Ob)<|an_ (nl_ hg (pk_ Xa.out):Mc≠Jb)<|D (by rw [hg];exact Nat.ne_of_gt (qt_ (pk_ Xa.out)):Jb≠Mc);clear Oe Oa Xa HB;obtain ⟨Oe,Oa,Xa,HB,Ma,Xp,Jq,Md,Of,Od,Uf⟩:=n_;clear hb hbox hg;(try have:=Of.out);(try have:=Md.out);(try have:=Uf.out);(try have:=Od.out);obtain ⟨Oj,Uj,Xj,Jk,Kk,Mk,Ok,Uk,Xk,Jm,Km,Mm⟩:=qm_ Ma.out;obtain ⟨Om,Um,Xm,Jn,Kn,Mn,On,Un,Xn,Jo,Ko,Mo⟩:=qm_ Oa.out))
 go_loopg [13] k (fun kq aJ w'=>∃ (Ja:Int) (Ud:List (S54)) (u476005:Value),aJ=I L Ja∧Aside0 (impl_copyTree.l0 kq l0_5 (l0_5.length:Int) Ja Ub Jc Kc Xc Mb Ud=some (x,y,z,A,B,E))∧Aside0 (kq≤k)∧Aside0 (Kd.R k75 75 w' w.heap.size (fun _=>True) (Y Oc Mb.length Uc) Mb)∧Aside0 (Kd.S k54 54 w' w.heap.size (fun k_=>some k_≠((Y Oc Mb.length Uc):Value).ownBlock) u476005 Ud)∧Aside0 (w'.heap[Ob]?=some (.cells #[I L d,I L g,I L j,I L l,(Y o a.length q),(Y M l0_5.length u)] 37 (0,0)))∧Aside0 (w'.heap[Mc]?=some (.cells #[I L 0,I L 0,I L 0,I L 0,(Y none 0 0),(Y none 0 0)] 37 (0,0)))∧Aside0 (w'.heap[Jb]?=some (.cells #[I L Ub,I L Jc,I L Kc,I L Xc,(Y Oc Mb.length Uc),u476005] 37 (0,0)))∧Aside0 (Below w.heap.size w w'))
 case atStart=>exact ⟨(0),(([]:List (S54))),(Y none 0 0),Z92,H',⟨Nat.le_refl _⟩,⟨rM_ (Kd.R_types Oe.out Ma.out (by decide)) (fun _ hk=>trivial)⟩,⟨by first|exact Kd.S_nil _ _ _ _ _|exact Kd.N_nil _ _ _ _ _|exact Kd.V_nil _ _ _ _ _|exact Kd.Q_nil _ _ _ _ _|exact Kd.R_nil _ _ _ _ _⟩,⟨pP_ Oa.out⟩,⟨pP_ Xa.out⟩,⟨pP_ Ma.out⟩,⟨pB_ HB.out⟩⟩
 case round =>
  clear H'
  (try clear c1);(try clear p2);(try clear c5);(try clear c10);(try clear a6);(try clear Oj Uj Xj Jk Kk Mk Ok Uk Xk Jm Km Mm);(try clear Om Um Xm Jn Kn Mn On Un Xn Jo Ko Mo);(try clear Oh Uh Xh Ji Ki Mi Oi Ui Xi Jj Kj Mj)
  obtain ⟨Ja,Ud,u476005,rfl,HA,an,Xb,Kb,Oa,Xa,Ma,HB⟩:=hrel
  cases gk with
  | zero=>exact absurd HA.out (by simp [impl_copyTree.l0])
  | succ k1 =>
   have H:=HA.out;clear HA;simp only [impl_copyTree.l0] at H
   by_cases s:Ja < (l0_5.length:Int)
   ·rw [if_pos s] at H
    have aK:decide (Ja < (l0_5.length:Int))=true:=decide_eq_true s;clear s
    by_cases O:0≤Ja
    ·rw [if_pos O] at H
     have a7:decide (0≤Ja)=true:=decide_eq_true O;clear O
     by_cases P:Ja < (l0_5.length:Int)
     ·rw [if_pos P] at H
      have a8:decide (Ja < (l0_5.length:Int))=true:=decide_eq_true P;clear P;obtain ⟨⟨Ue,Xe,Jf,Kf,Me⟩,ap,H⟩:=bs_.mp H;(try dsimp only at H);have aM:=D ap;clear ap
      by_cases T:Ud.length < 2199023255552
      ·rw [if_pos T] at H
       have aN:=D T;clear T;obtain ⟨W,J⟩:∃ y_:List (S54),y_=(Ud ++ [(⟨(qc_ l0_5 Ja).f0,(⟨Ue,(⟨Xe,Jf,Kf⟩:S31),Me⟩:S34)⟩:S54)]):=⟨_,rfl⟩
       replace H:(impl_copyTree.l0 k1 l0_5 (l0_5.length:Int) (wrap64 (Ja+1)) Ub Jc Kc Xc Mb W)=some (x,y,z,A,B,E):=by first|(rw [J];with_reducible exact H)|(have H2_:=(Option.bind_some _ _).symm.trans H;rw [J];with_reducible exact H2_)|(have H2_:=(Option.bind_some _ _).symm.trans H;with_reducible exact H2_)|with_reducible exact H|(rw [J];exact H)|exact H
       have aQ:=D J;clear J;have H':=D H;clear H;have X:0≤(Ja:Int):=od_ Z91;have Z:Ja < (l0_5.length:Int):=od_ Z91;obtain ⟨aR,b,c,aT,aq,ar,au,av,aw,ax,ay,az⟩:=qaz_ aG.out Ja X Z;cases aT;replace aq:=rc_ HB.out aq;replace ar:=rc_ HB.out ar;replace au:=rc_ HB.out au;replace av:=rc_ HB.out av;replace aw:=rc_ HB.out aw;replace ax:=rc_ HB.out ax;have aU:=D az;have aV:=D ay;clear az ay;replace X:=eq_true X;replace Z:=eq_true Z
       try go_wp2_with (first|((with_reducible refine qh_ (N:=5) rfl ?_);refine bx_ (N:=5) (cs:=#[I L 0,I L 0,I L 0,I L 0,I L 0,Y none 0 0]) (t:=54) ?_;intro Ka hg m hbox hb;have n_:=an_ (Kd.R_below (pR_ Xb.out) hb)<|an_ (Kd.S_below (Kd.S_elderB (pS_ Kb.out) Ka (Nat.le_of_eq hg.symm)) hb)<|an_ (qa_ (pk_ Oa.out) hb)<|an_ (qa_ (pk_ Xa.out) hb)<|an_ (qa_ (pk_ Ma.out) hb)<|an_ (qd_ (pB_ HB.out) hb)<|an_ (hbox)<|an_ (bg_ hg (pB_ HB.out):w.heap.size≤Ka)<|an_ (bg_ hg (pB_ HB.out):w.heap.size≤Ka)<|an_ (nl_ hg (pk_ Oa.out):Ob≠Ka)<|an_ (ng_ hg (pk_ Oa.out):Ka≠Ob)<|an_ (nl_ hg (pk_ Xa.out):Mc≠Ka)<|an_ (ng_ hg (pk_ Xa.out):Ka≠Mc)<|an_ (nl_ hg (pk_ Ma.out):Jb≠Ka)<|D (by rw [hg];exact Nat.ne_of_gt (qt_ (pk_ Ma.out)):Ka≠Jb);clear Xb Kb Oa Xa Ma HB;obtain ⟨Xb,Kb,Oa,Xa,Ma,HB,Ua,Kq,Mq,Je,Oo,Ke,Uo,Xd,Xg⟩:=n_;clear hb hbox hg;(try have:=Oo.out);(try have:=Je.out);(try have:=Uo.out);(try have:=Ke.out);(try have:=Xg.out);(try have:=Xd.out);obtain ⟨Oq,Uq,Xq,Jr,Kr,Mr,Or,Ur,Xr,Js,Ks,Ms⟩:=qm_ Ua.out))
       have aa:Aside0 (Kd.R k75 75 ((((((m.setCell ⟨Ka,0,none⟩ (I L ((qc_ l0_5 Ja).f0))).setCell ⟨Ka,1,none⟩ (I L ((qc_ l0_5 Ja).f1.f0))).setCell ⟨Ka,2,none⟩ (I L ((qc_ l0_5 Ja).f1.f1.f0))).setCell ⟨Ka,3,none⟩ (I L ((qc_ l0_5 Ja).f1.f1.f1))).setCell ⟨Ka,4,none⟩ (I L ((qc_ l0_5 Ja).f1.f1.f2))).setCell ⟨Ka,5,none⟩ (Y b ((qc_ l0_5 Ja).f1.f2).length c)) w.heap.size (fun _=>True) (Y Oc Mb.length Uc) Mb):=⟨rM_ (Kd.R_types Xb.out Ua.out (by decide)) (fun _ hk=>trivial)⟩;have ab:Aside0 (Kd.S k54 54 ((((((m.setCell ⟨Ka,0,none⟩ (I L ((qc_ l0_5 Ja).f0))).setCell ⟨Ka,1,none⟩ (I L ((qc_ l0_5 Ja).f1.f0))).setCell ⟨Ka,2,none⟩ (I L ((qc_ l0_5 Ja).f1.f1.f0))).setCell ⟨Ka,3,none⟩ (I L ((qc_ l0_5 Ja).f1.f1.f1))).setCell ⟨Ka,4,none⟩ (I L ((qc_ l0_5 Ja).f1.f1.f2))).setCell ⟨Ka,5,none⟩ (Y b ((qc_ l0_5 Ja).f1.f2).length c)) w.heap.size (fun k_=>some k_≠(Y Oc Mb.length Uc:Value).ownBlock∧k_≠Ka) u476005 Ud):=⟨sM_ (Kd.S_mono Kb.out (fun k_ hk=>(⟨hk,hk.2⟩:_∧k_≠Ka))) (fun _ hk=>⟨hk.1.1,hk.1.2⟩)⟩;have ac:Aside0 (((((((m.setCell ⟨Ka,0,none⟩ (I L ((qc_ l0_5 Ja).f0))).setCell ⟨Ka,1,none⟩ (I L ((qc_ l0_5 Ja).f1.f0))).setCell ⟨Ka,2,none⟩ (I L ((qc_ l0_5 Ja).f1.f1.f0))).setCell ⟨Ka,3,none⟩ (I L ((qc_ l0_5 Ja).f1.f1.f1))).setCell ⟨Ka,4,none⟩ (I L ((qc_ l0_5 Ja).f1.f1.f2))).setCell ⟨Ka,5,none⟩ (Y b ((qc_ l0_5 Ja).f1.f2).length c)).heap[Ob]?=some (.cells #[I L d,I L g,I L j,I L l,Y o a.length q,Y (some aR) l0_5.length u] 37 (0,0))):=⟨pP_ Oa.out⟩;have ad:Aside0 (((((((m.setCell ⟨Ka,0,none⟩ (I L ((qc_ l0_5 Ja).f0))).setCell ⟨Ka,1,none⟩ (I L ((qc_ l0_5 Ja).f1.f0))).setCell ⟨Ka,2,none⟩ (I L ((qc_ l0_5 Ja).f1.f1.f0))).setCell ⟨Ka,3,none⟩ (I L ((qc_ l0_5 Ja).f1.f1.f1))).setCell ⟨Ka,4,none⟩ (I L ((qc_ l0_5 Ja).f1.f1.f2))).setCell ⟨Ka,5,none⟩ (Y b ((qc_ l0_5 Ja).f1.f2).length c)).heap[Mc]?=some (.cells #[I L 0,I L 0,I L 0,I L 0,Y none 0 0,Y none 0 0] 37 (0,0))):=⟨pP_ Xa.out⟩;have ae:Aside0 (((((((m.setCell ⟨Ka,0,none⟩ (I L ((qc_ l0_5 Ja).f0))).setCell ⟨Ka,1,none⟩ (I L ((qc_ l0_5 Ja).f1.f0))).setCell ⟨Ka,2,none⟩ (I L ((qc_ l0_5 Ja).f1.f1.f0))).setCell ⟨Ka,3,none⟩ (I L ((qc_ l0_5 Ja).f1.f1.f1))).setCell ⟨Ka,4,none⟩ (I L ((qc_ l0_5 Ja).f1.f1.f2))).setCell ⟨Ka,5,none⟩ (Y b ((qc_ l0_5 Ja).f1.f2).length c)).heap[Jb]?=some (.cells #[I L Ub,I L Jc,I L Kc,I L Xc,Y Oc Mb.length Uc,u476005] 37 (0,0))):=⟨pP_ Ma.out⟩
       have af:Aside0 (((((((m.setCell ⟨Ka,0,none⟩ (I L ((qc_ l0_5 Ja).f0))).setCell ⟨Ka,1,none⟩ (I L ((qc_ l0_5 Ja).f1.f0))).setCell ⟨Ka,2,none⟩ (I L ((qc_ l0_5 Ja).f1.f1.f0))).setCell ⟨Ka,3,none⟩ (I L ((qc_ l0_5 Ja).f1.f1.f1))).setCell ⟨Ka,4,none⟩ (I L ((qc_ l0_5 Ja).f1.f1.f2))).setCell ⟨Ka,5,none⟩ (Y b ((qc_ l0_5 Ja).f1.f2).length c)).heap[Ka]?=some (.cells #[I L ((qc_ l0_5 Ja).f0),I L ((qc_ l0_5 Ja).f1.f0),I L ((qc_ l0_5 Ja).f1.f1.f0),I L ((qc_ l0_5 Ja).f1.f1.f1),I L ((qc_ l0_5 Ja).f1.f1.f2),Y b ((qc_ l0_5 Ja).f1.f2).length c] 54 (0,0))):=⟨pP_ Ua.out⟩;have ag:Aside0 (Below w.heap.size w ((((((m.setCell ⟨Ka,0,none⟩ (I L ((qc_ l0_5 Ja).f0))).setCell ⟨Ka,1,none⟩ (I L ((qc_ l0_5 Ja).f1.f0))).setCell ⟨Ka,2,none⟩ (I L ((qc_ l0_5 Ja).f1.f1.f0))).setCell ⟨Ka,3,none⟩ (I L ((qc_ l0_5 Ja).f1.f1.f1))).setCell ⟨Ka,4,none⟩ (I L ((qc_ l0_5 Ja).f1.f1.f2))).setCell ⟨Ka,5,none⟩ (Y b ((qc_ l0_5 Ja).f1.f2).length c))):=⟨pB_ HB.out⟩;(try clear Xb);(try clear Kb);(try clear Oa);(try clear Xa);(try clear Ma);(try clear Ua);(try clear HB);generalize ((((((m.setCell ⟨Ka,0,none⟩ (I L ((qc_ l0_5 Ja).f0))).setCell ⟨Ka,1,none⟩ (I L ((qc_ l0_5 Ja).f1.f0))).setCell ⟨Ka,2,none⟩ (I L ((qc_ l0_5 Ja).f1.f1.f0))).setCell ⟨Ka,3,none⟩ (I L ((qc_ l0_5 Ja).f1.f1.f1))).setCell ⟨Ka,4,none⟩ (I L ((qc_ l0_5 Ja).f1.f1.f2))).setCell ⟨Ka,5,none⟩ (Y b ((qc_ l0_5 Ja).f1.f2).length c))=aW at aa ab ac ad ae af ag ⊢;have Xb:=aa;have Kb:=ab;have Oa:=ac;have Xa:=ad;have Ma:=ae;have Ua:=af;have HB:=ag;clear aa ab ac ad ae af ag
       have n_:=an_ (Kd.R_drew Xb.out)<|an_ (Kd.S_drew Kb.out)<|an_ (qi_ Oa.out)<|an_ (qi_ Xa.out)<|an_ (qi_ Ma.out)<|an_ (qi_ Ua.out)<|D (ql_ HB.out)
       clear Xb Kb Oa Xa Ma Ua HB;obtain ⟨Xb,Kb,Oa,Xa,Ma,Ua,HB⟩:=n_;refine q1_ (n:=12) (S:=fun w'=>w'.cell? ⟨Jb,0,none⟩=some (I L Ub)∧w'.cell? ⟨Jb,1,none⟩=some (I L Jc)∧w'.cell? ⟨Jb,2,none⟩=some (I L Kc)∧w'.cell? ⟨Jb,3,none⟩=some (I L Xc)∧w'.cell? ⟨Jb,4,none⟩=some (Y Oc Mb.length Uc)∧w'.cell? ⟨Jb,5,none⟩=some (u476005)∧w'.cell? ⟨Ka,0,none⟩=some (I L ((qc_ l0_5 Ja).f0))∧w'.cell? ⟨Ka,1,none⟩=some (I L ((qc_ l0_5 Ja).f1.f0))∧w'.cell? ⟨Ka,2,none⟩=some (I L ((qc_ l0_5 Ja).f1.f1.f0))∧w'.cell? ⟨Ka,3,none⟩=some (I L ((qc_ l0_5 Ja).f1.f1.f1))∧w'.cell? ⟨Ka,4,none⟩=some (I L ((qc_ l0_5 Ja).f1.f1.f2))∧w'.cell? ⟨Ka,5,none⟩=some (Y b ((qc_ l0_5 Ja).f1.f2).length c)) (ds:=[11]) (bz 12 0) (by kernel_rfl) rfl (by kernel_rfl) (bk6_ Ma.out (be6_ Ua.out)) (fun hHeld=>?_);refine qn_ impl_copyTree.tab5 impl_copyTree.bits5 (fun HT_ HW_=>?_);generalize aW.drew=a9 at Xb Kb Oa Xa Ma Ua HB hHeld ⊢;refine pb_ 0 ?_;refine pb_ 2 ?_;refine pb_ 4 ?_;refine tb_ 1 rfl rfl hHeld Z44 ?_;refine tb_ 3 rfl rfl hHeld Z44 ?_;refine tb_ 5 rfl rfl hHeld Z44 ?_;refine oa_ 6 23 12 127 HT_ (fun K hK=>?_);refine goes_ Try.func54 (by kernel_rfl) rfl #[.agg #[I L ((qc_ l0_5 Ja).f1.f0),I L ((qc_ l0_5 Ja).f1.f1.f0),I L ((qc_ l0_5 Ja).f1.f1.f1),I L ((qc_ l0_5 Ja).f1.f1.f2),Y b ((qc_ l0_5 Ja).f1.f2).length c]] (by rfl) rfl rfl Z24 ?_;with_reducible refine (impl_copyFair.calls ((qc_ l0_5 Ja).f1.f0) ((qc_ l0_5 Ja).f1.f1.f0) ((qc_ l0_5 Ja).f1.f1.f1) ((qc_ l0_5 Ja).f1.f1.f2) _ _ ((qc_ l0_5 Ja).f1.f2) Ue Xe Jf Kf Me _ ?side1 ?side2 aM.out).mono ?_
       (case side1=>exact pC_ (Kd.C_below aU.out HB.out));(case side2=>exact aV.out);rintro e ba ⟨Os,rfl,r,hb⟩;refine ⟨_,rfl,?_⟩
       have n_:=an_ (Kd.R_elder' (pR_ Xb.out) (Kd.R_base r) hb)<|an_ (Kd.S_elder' (pS_ Kb.out) (Kd.R_base r) hb)<|an_ (Kd.R_lower (nw_ r (pR_ Xb.out)) (qk_ (pB_ HB.out)))<|an_ (qa_ (pk_ Oa.out) hb)<|an_ (qa_ (pk_ Xa.out) hb)<|an_ (qa_ (pk_ Ma.out) hb)<|an_ (qa_ (pk_ Ua.out) hb)<|D (qd_ (pB_ HB.out) hb)
       clear Xb Kb Oa Xa Ma Ua HB;obtain ⟨Xb,Kb,Mf,Oa,Xa,Ma,Ua,HB⟩:=n_;obtain ⟨Jh,Kh,aA⟩:=Kd.R_slice Mf.out;(first|subst aA|obtain ⟨rfl,rfl⟩:=qag_ aA);refine hK.out _ _ (bk6_ Ma.out (be6_ Ua.out)) (fun hHeld=>?_);clear hK K;refine nx_ (N:=some 23) ?_;refine pb_ 7 ?_;refine oa_ 8 25 12 511 HT_ (fun K hK=>?_);refine value_ (w1:=?_) (v:=?_) (by rfl) rfl ?_ ?_;rotate_left 2
       ·go_simp
        constructor
        ·rfl
        ·rfl
       refine hK.out _ _ ⟨(qs_ (qas_ Ma.out _) 0).trans rfl,(qs_ (qas_ Ma.out _) 1).trans rfl,(qs_ (qas_ Ma.out _) 2).trans rfl,(qs_ (qas_ Ma.out _) 3).trans rfl,(qs_ (qas_ Ma.out _) 4).trans rfl,(qs_ (qas_ Ma.out _) 5).trans rfl,(qs_ (qas_ Ua.out _) 0).trans rfl,(qs_ (qas_ Ua.out _) 1).trans rfl,(qs_ (qas_ Ua.out _) 2).trans rfl,(qs_ (qas_ Ua.out _) 3).trans rfl,(qs_ (qas_ Ua.out _) 4).trans rfl,(qs_ (qas_ Ua.out _) 5).trans rfl⟩ (fun hHeld=>?_);clear hK K;refine nx_ (N:=some 25) ?_;refine oa_ 9 26 12 1023 HT_ (fun K hK=>?_);refine Kd.S_append_step k54 (w0:=w) w.heap.size (by rfl) (.tmp 18) (.tmp 25) 35 54 (.agg #[(I L 0),(I L 0),(I L 0),(I L 0),(I L 0),(Y none 0 0)]) 64 rfl Try.underlying35 info54 rfl (by decide) (by omega) u476005 Ud (⟨(qc_ l0_5 Ja).f0,(⟨Ue,(⟨Xe,Jf,Kf⟩:S31),Me⟩:S34)⟩:S54) [I L ((qc_ l0_5 Ja).f0),I L Ue,I L Xe,I L Jf,I L Kf,Y Jh Me.length Kh] (fun k_=>some k_≠(Y Oc Mb.length Uc:Value).ownBlock∧k_≠Ka) (fun k_=>some k_=(Y Jh Me.length Kh:Value).ownBlock) rfl rfl ?aP (fun k_ hk_=>((Kd.R_mono (ok':=fun k_=>((fun k_=>some k_≠(Y Oc Mb.length Uc:Value).ownBlock∧k_≠Ka)) k_∧some k_≠(u476005:Value).ownBlock) (Kd.R_types (Kd.R_apart' (Mf.out) (Kd.S_typed Kb.out) (by decide)) Ua.out (by decide)) (fun k_ hk=>⟨⟨hk.1.1.2,hk.2⟩,hk.1.2⟩))).1 k_ hk_.symm) ?aF ?aO ?aB ?aS ?aL ?_;(case aP=>exact k54_mkM _ _ _ (⟨(qc_ l0_5 Ja).f0,(⟨Ue,(⟨Xe,Jf,Kf⟩:S31),Me⟩:S34)⟩:S54) (Kd.R_mono (Kd.R_tight rfl (Kd.R_mono (ok':=fun k_=>((fun k_=>some k_≠(Y Oc Mb.length Uc:Value).ownBlock∧k_≠Ka)) k_∧some k_≠(u476005:Value).ownBlock) (Kd.R_types (Kd.R_apart' (Mf.out) (Kd.S_typed Kb.out) (by decide)) Ua.out (by decide)) (fun k_ hk=>⟨⟨hk.1.1.2,hk.2⟩,hk.1.2⟩))) (fun _ h_=>h_)));(case aB=>exact (pB_ HB.out));(case aF=>exact (fun k_ hk=>⟨Kd.fresh' (Kd.R_lt (pR_ Xb.out)) k_ hk,Kd.freshB (pk_ Ua.out) k_ hk⟩));(case aO=>exact (pS_ (Kd.S_mono Kb.out (fun k_ hk=>⟨⟨hk.1.1,hk.1.2⟩,fun e_=>hk.2 e_⟩))));(case aS=>exact (qk_ (pB_ HB.out)));(case aL=>have:=aN.out;omega);intro Us aX ho hb hg hat;rw [← aQ.out] at ho
       have n_:=an_ (Kd.R_over' (pR_ Xb.out) (Kd.S_typed (pS_ Kb.out)) (by decide) hg)<|an_ (qw_ (pk_ Oa.out) hg (Kd.S_ne Kb.out Oa.out (by decide)))<|an_ (qw_ (pk_ Xa.out) hg (Kd.S_ne Kb.out Xa.out (by decide)))<|an_ (qw_ (pk_ Ma.out) hg (Kd.S_ne Kb.out Ma.out (by decide)))<|an_ (qw_ (pk_ Ua.out) hg (Kd.S_away Kb.out (fun _ hk=>hk.1.2)))<|an_ (hb)<|D (ho)
       clear Xb Oa Xa Ma Ua HB Kb Mf;obtain ⟨Xb,Oa,Xa,Ma,Ua,HB,Mh⟩:=n_;clear ho hb hg hat;obtain ⟨Xf,Jg,aC⟩:=Kd.S_slice Mh.out;(first|subst aC|obtain ⟨rfl,rfl⟩:=qag_ aC);refine hK.out _ _ (bk6_ Ma.out (be6_ Ua.out)) (fun hHeld=>?_);clear hK K;refine nx_ (N:=some 26) ?_;refine pb_ 10 ?_;refine last_ (i:=11) (N:=none) (bz 12 4095) rfl rfl (qa4_ HT_.out (by kernel_rfl)) (by decide) (fun K hK=>?_);have bb:aX.cell? ⟨Jb,5,none⟩=some (u476005):=bc_ Ma.out 5;have bc:=qj_ Ma.out 5;have bd:=Md.out;have be:=Od.out;have bf:=Xg.out;have bg:=Of.out;have bh:=Uf.out;have bi:=Xd.out;refine skip_ (w1:=?_) (by rfl) rfl ?_ ?_;rotate_left
       ·go_simp
        rfl
       refine hK.out _ _ ?_;clear hK K;refine done_ (qv_ HT_.out (by kernel_rfl)) ?_
       try go_wp2
       go_roundg k1
       case measure=>have:=an.out;omega
       case rel=>exact ⟨(wrap64 (Ja+1)),(W),(Y Xf W.length Jg),Z92,H',⟨by have:=an.out;omega⟩,⟨rM_ (Kd.R_types Xb.out Ma.out (by decide)) (fun _ hk=>trivial)⟩,⟨sM_ (Kd.S_types Mh.out Ma.out (by decide)) (fun _ hk=>hk.1.1)⟩,⟨pP_ Oa.out⟩,⟨pP_ Xa.out⟩,⟨pP_ Ma.out⟩,⟨pB_ HB.out⟩⟩
      ·rw [if_neg T] at H
       exact absurd H (by simp)
     ·rw [if_neg P] at H
      exact absurd H (by simp)
    ·rw [if_neg O] at H
     exact absurd H (by simp)
   ·rw [if_neg s] at H
    have aK:decide (Ja < (l0_5.length:Int))=false:=decide_eq_false s;clear s;simp only [Option.some.injEq,Prod.mk.injEq] at H;obtain ⟨rfl,rfl,rfl,rfl,rfl,rfl⟩:=H;(try have:=Of.out);(try have:=Md.out);(try have:=Uf.out);(try have:=Od.out);obtain ⟨Xs,Ju,Ku,Mu,Ou,Uu,Xu,Jv,Kv,Mv,Ov,Uv⟩:=qm_ Ma.out;(try have:=Ug.out);(try have:=Og.out);obtain ⟨Xv,Jx,Kx,Mx,Ox,Ux,Xx,Jy,Ky,My,Oy,Uy⟩:=qm_ Xa.out;obtain ⟨Kg,Mg,aY⟩:=Kd.S_slice Kb.out;subst aY
    go_wp2
    refine bodyPost_ret (results_cell_row rfl _ _ Mc 37 #[I L Ub,I L Jc,I L Kc,I L Xc,Y Oc Mb.length Uc,Y Kg Ud.length Mg] (0,0) _ rfl (by exact pP_ Xa.out) Try.underlying37 rfl (by kernel_rfl)) rfl ?_;exact ⟨_,_,er_,by (with_reducible repeat (first|apply Kd.R_alloc|apply Kd.R_drewN|apply Kd.R_drew));exact Kd.R_mono (fr_ (fr_ (fr_ (fr_ (fr_ (fr_ (Kd.R_types Xb.out Xa.out (by decide)) 0 (I L Ub)) 1 (I L Jc)) 2 (I L Kc)) 3 (I L Xc)) 4 (Y Oc Mb.length Uc)) 5 (Y Kg Ud.length Mg)) (fun _ hk=>trivial),by (with_reducible repeat (first|apply Kd.S_alloc|apply Kd.S_drewN|apply Kd.S_drew));exact Kd.S_mono (Kd.S_far (p:=⟨Mc,5,none⟩) (Kd.S_far (p:=⟨Mc,4,none⟩) (Kd.S_far (p:=⟨Mc,3,none⟩) (Kd.S_far (p:=⟨Mc,2,none⟩) (Kd.S_far (p:=⟨Mc,1,none⟩) (Kd.S_far (p:=⟨Mc,0,none⟩) (Kd.S_types Kb.out Xa.out (by decide)) (fun _ hk=>hk.2) (I L Ub)) (fun _ hk=>hk.2) (I L Jc)) (fun _ hk=>hk.2) (I L Kc)) (fun _ hk=>hk.2) (I L Xc)) (fun _ hk=>hk.2) (Y Oc Mb.length Uc)) (fun _ hk=>hk.2) (Y Kg Ud.length Mg)) (fun _ hk=>hk.1),pB_ HB.out⟩
def impl_Tree_change.f (k:Nat) (c d e g:Int) (h:List (S75)) (l0_5:List (S54)) (i:Int) (j:(Int→Int→Int→Int→(List (S75))→Option (Int×Int×Int×Int×List (S75)×Int))):Option (Int×Int×Int×Int×(List (S75))×(List (S54))×Int×Int):=(impl_TreeOk.f k c d e g h l0_5).bind fun Xo=>(if Xo=true then ((impl_Fair_at.f k c d e g h i).bind fun Jd=>(if Jd < 0 then (some (0,0,0,0,([]:List (S75)),([]:List (S54)),0,4)) else (if 0≤Jd then (if Jd < (l0_5.length:Int) then ((j ((qc_ l0_5 Jd).f1.f0) ((qc_ l0_5 Jd).f1.f1.f0) ((qc_ l0_5 Jd).f1.f1.f1) ((qc_ l0_5 Jd).f1.f1.f2) ((qc_ l0_5 Jd).f1.f2)).bind fun b=>(if b.2.2.2.2.2=0 then ((impl_copyTree.f k c d e g h l0_5).bind fun a=>(if Jd < (a.2.2.2.2.2.length:Int) then (some (a.1,a.2.1,a.2.2.1,a.2.2.2.1,a.2.2.2.2.1,(a.2.2.2.2.2.set (Jd:Int).toNat (⟨(qc_ a.2.2.2.2.2 Jd).f0,(⟨b.1,(⟨b.2.1,b.2.2.1,b.2.2.2.1⟩:S31),b.2.2.2.2.1⟩:S34)⟩:S54)),Jd,0)) else (none))) else (some (0,0,0,0,([]:List (S75)),([]:List (S54)),0,b.2.2.2.2.2)))) else (none)) else (none)))) else (some (0,0,0,0,([]:List (S75)),([]:List (S54)),0,1)))
theorem impl_Tree_change.calls (k : Nat) (c d g i : Int) (l : Option Addr) (m : Nat) (b : List (S75)) (M : Option Addr) (o : Nat) (l0_5 : List (S54)) (E : Int) (a2 : (Int → Int → Int → Int → (List (S75)) → Option (Int × Int × Int × Int × List (S75) × Int))) (ag : Nat) (ah : Array Value) (O P T U : Int) (W : List (S75)) (X : List (S54)) (Z r8 : Int) (w : World) (aw : Kd.C k75 w l b.length b) (ax : b.length ≤ m) (ay : Kd.C k54 w M l0_5.length l0_5) (az : l0_5.length ≤ o) (hq2 : Aside0 (∃ F_, Try.prog.funcs[ag]? = some F_ ∧ (F_.name == "runtime.NumGoroutine") = false ∧ F_.body.isSome = true)) (HP2_27 : Aside0 (∀ (aA aB aC aD : Int) (aE : Option Addr) (aF : Nat) (G : List (S75)) (aG aH aI aJ : Int) (aK : List (S75)) (aL : Int) (W_ : World), Below w.heap.size w W_ → Kd.C k75 W_ aE G.length G → G.length ≤ aF → a2 aA aB aC aD G = some (aG, aH, aI, aJ, aK, aL) → Calls Try.prog ag (#[.agg #[I L aA, I L aB, I L aC, I L aD, Y aE G.length aF]] ++ ah) W_ (fun e w' => ∃ vv4_ : Value, e = .returned (.tuple #[.agg #[I L aG, I L aH, I L aI, I L aJ, vv4_], I L aL]) ∧ Kd.R k75 75 w' W_.heap.size (fun _ => True) vv4_ aK ∧ Below W_.heap.size W_ w'))) (h : impl_Tree_change.f k c d g i b l0_5 E a2 = some (O, P, T, U, W, X, Z, r8)) :
  Calls Try.prog 27 #[.agg #[I L c,I L d,I L g,I L i,Y l b.length m,Y M l0_5.length o],I L E,.func (.func ag) #[] ah] w fun e w'=>∃ ai aM:Value,e=.returned (.tuple #[.agg #[I L O,I L P,I L T,I L U,ai,aM],I L Z,I L r8])∧Kd.R k75 75 w' w.heap.size (fun _=>True) ai W∧Kd.S k54 54 w' w.heap.size (fun k_=>some k_≠(ai:Value).ownBlock) aM X∧Below w.heap.size w w':=by
 have hu37:=Try.underlying37
 have hu34:=Try.underlying34
 have aj:=D aw
 have ak:=D ax
 clear aw ax
 have al:=D ay
 have aN:=D az
 clear ay az
 have HB:=D (Below.refl w.heap.size w)
 have H:((impl_TreeOk.f k c d g i b l0_5).bind fun Mg=>(if Mg=true then ((impl_Fair_at.f k c d g i b E).bind fun Ja=>(if Ja < 0 then (some (0,0,0,0,([]:List (S75)),([]:List (S54)),0,4)) else (if 0≤Ja then (if Ja < (l0_5.length:Int) then ((a2 ((qc_ l0_5 Ja).f1.f0) ((qc_ l0_5 Ja).f1.f1.f0) ((qc_ l0_5 Ja).f1.f1.f1) ((qc_ l0_5 Ja).f1.f1.f2) ((qc_ l0_5 Ja).f1.f2)).bind fun q=>(if q.2.2.2.2.2=0 then ((impl_copyTree.f k c d g i b l0_5).bind fun n=>(if Ja < (n.2.2.2.2.2.length:Int) then (some (n.1,n.2.1,n.2.2.1,n.2.2.2.1,n.2.2.2.2.1,(n.2.2.2.2.2.set (Ja:Int).toNat (⟨(qc_ n.2.2.2.2.2 Ja).f0,(⟨q.1,(⟨q.2.1,q.2.2.1,q.2.2.2.1⟩:S31),q.2.2.2.2.1⟩:S34)⟩:S54)),Ja,0)) else (none))) else (some (0,0,0,0,([]:List (S75)),([]:List (S54)),0,q.2.2.2.2.2)))) else (none)) else (none)))) else (some (0,0,0,0,([]:List (S75)),([]:List (S54)),0,1))))=some (O,P,T,U,W,X,Z,r8):=h
 clear h
 obtain ⟨Mg,aO,H⟩:=bs_.mp H
 (try dsimp only at H)
 have A4:=D aO
 clear aO
 have aP:=D H
 clear H
 go_enter Try.func27,Try.ntmps27
 go_upto_if 15 with (first|((with_reducible refine qh_ (N:=3) rfl ?_);refine bx_ (N:=3) (cs:=#[I L c,I L d,I L g,I L i,Y l b.length m,Y M l0_5.length o]) (t:=37) ?_;intro Jd hg w6 hbox hb;have n_:=an_ (qd_ (pB_ HB.out) hb)<|an_ (hbox)<|an_ (bg_ hg (pB_ HB.out):w.heap.size≤Jd)<|D (bg_ hg (pB_ HB.out):w.heap.size≤Jd);clear HB;obtain ⟨HB,Ma,Oh,Uh⟩:=n_;clear hb hbox hg)|((with_reducible refine qh_ (N:=6) rfl ?_);refine bx_ (N:=6) (cs:=#[I L 0,I L 0,I L 0,I L 0,Y none 0 0,Y none 0 0]) (t:=37) ?_;intro Kb hg w7 hbox hb;have n_:=an_ (qa_ (pk_ Ma.out) hb)<|an_ (qd_ (pB_ HB.out) hb)<|an_ (hbox)<|an_ (bg_ hg (pB_ HB.out):w.heap.size≤Kb)<|an_ (bg_ hg (pB_ HB.out):w.heap.size≤Kb)<|an_ (nl_ hg (pk_ Ma.out):Jd≠Kb)<|D (by rw [hg];exact Nat.ne_of_gt (qt_ (pk_ Ma.out)):Kb≠Jd);clear Ma HB;obtain ⟨Ma,HB,Ka,Xh,Ji,Jf,Kf⟩:=n_;clear hb hbox hg;(try have:=Jf.out);(try have:=Kf.out);obtain ⟨Ki,Mi,Oi,Ui,Xi,Jj,Kj,Mj,Oj,Uj,Xj,Jk⟩:=qm_ Ma.out)|((with_reducible refine qe_ (f:=23) rfl ?_);refine qp_ (some 14) rfl rfl Try.func23 (by kernel_rfl) rfl #[.agg #[I L c,I L d,I L g,I L i,Y l b.length m,Y M l0_5.length o]] rfl Z24 ?_;(with_reducible refine (impl_TreeOk.calls k c d g i _ _ b _ _ l0_5 Mg _ ?side1 ?side2 ?side3 ?side4 A4.out).mono ?_);(case side1=>exact pC_ (Kd.C_below aj.out HB.out));(case side2=>exact ak.out);(case side3=>exact pC_ (Kd.C_below al.out HB.out));(case side4=>exact aN.out);rintro e bQ ⟨rfl,hb⟩;refine ⟨_,rfl,?_⟩;have n_:=an_ (qa_ (pk_ Ma.out) hb)<|an_ (qa_ (pk_ Ka.out) hb)<|D (qd_ (pB_ HB.out) hb);clear Ma Ka HB;obtain ⟨Ma,Ka,HB⟩:=n_;(try clear hb)))
 have H:=aP.out
 clear aP
 by_cases ab:Mg=true
 ·subst ab
  rw [if_pos rfl] at H;obtain ⟨Ja,aQ,H⟩:=bs_.mp H;(try dsimp only at H);have bj:=D aQ;clear aQ;have aR:=D H;clear H;(try have:=Jf.out);(try have:=Kf.out);obtain ⟨Kk,Mk,Ok,Uk,Xk,Jm,Km,Mm,Om,Um,Xm,Jn⟩:=qm_ Ma.out
  go_upto_if 22 with (first|((with_reducible refine qe_ (f:=52) rfl ?_);refine qp_ (some 20) rfl rfl Try.func52 (by kernel_rfl) rfl #[.agg #[I L c,I L d,I L g,I L i,Y l b.length m],I L E] rfl Z24 ?_;(with_reducible refine (impl_Fair_at.calls k c d g i _ _ b E Ja _ ?side1 ?side2 bj.out).mono ?_);(case side1=>exact pC_ (Kd.C_below aj.out HB.out));(case side2=>exact ak.out);rintro e bR ⟨rfl,hb⟩;refine ⟨_,rfl,?_⟩;have n_:=an_ (qa_ (pk_ Ma.out) hb)<|an_ (qa_ (pk_ Ka.out) hb)<|D (qd_ (pB_ HB.out) hb);clear Ma Ka HB;obtain ⟨Ma,Ka,HB⟩:=n_;(try clear hb)))
  have H:=aR.out;clear aR
  by_cases x:Ja < 0
  ·rw [if_pos x] at H
   have am:decide (Ja < 0)=true:=decide_eq_true x;clear x;refine rw_ am ?_;simp only [Option.some.injEq,Prod.mk.injEq] at H;obtain ⟨rfl,rfl,rfl,rfl,rfl,rfl,rfl,rfl⟩:=H;(try have:=Kf.out);(try have:=Jf.out);obtain ⟨Kn,Mn,On,Un,Xn,Jo,Ko,Mo,Oo,Uo,Xo,Jp⟩:=qm_ Ka.out
   go_wp2
   refine bodyPost_ret (results_ctt rfl _ _ Kb 37 #[I L 0,I L 0,I L 0,I L 0,Y none 0 0,Y none 0 0] (0,0) _ rfl Z4 Try.underlying37 rfl (by kernel_rfl)) rfl ?_;exact ⟨_,_,er_,by first|exact Kd.R_nil _ _ _ _ _|exact Kd.N_nil _ _ _ _ _|exact Kd.V_nil _ _ _ _ _|exact Kd.Q_nil _ _ _ _ _|exact Kd.S_nil _ _ _ _ _,by first|exact Kd.S_nil _ _ _ _ _|exact Kd.N_nil _ _ _ _ _|exact Kd.V_nil _ _ _ _ _|exact Kd.Q_nil _ _ _ _ _|exact Kd.R_nil _ _ _ _ _,pB_ HB.out⟩
  ·rw [if_neg x] at H
   have am:decide (Ja < 0)=false:=decide_eq_false x;clear x;refine rw_ am ?_
   by_cases ac:0≤Ja
   ·rw [if_pos ac] at H
    have bS:decide (0≤Ja)=true:=decide_eq_true ac;clear ac
    by_cases ad:Ja < (l0_5.length:Int)
    ·rw [if_pos ad] at H
     have bT:decide (Ja < (l0_5.length:Int))=true:=decide_eq_true ad;clear ad;obtain ⟨⟨Od,Xd,Je,Ke,Xc,Kg⟩,aS,H⟩:=bs_.mp H;(try dsimp only at H);have bk:=D aS;clear aS;have aT:=D H;clear H;(try have:=Jf.out);(try have:=Kf.out);obtain ⟨Kp,Mp,Op,Up,Xp,Jq,Kq,Mq,Oq,Uq,Xq,Jr⟩:=qm_ Ma.out;have an:0≤(Ja:Int):=od_ Z91;have ao:Ja < (l0_5.length:Int):=od_ Z91;obtain ⟨ap,bl,bm,bn,aU,aV,aW,aX,aY,aZ,a0,a3⟩:=qaz_ al.out Ja an ao;cases bn;replace aU:=rc_ HB.out aU;replace aV:=rc_ HB.out aV;replace aW:=rc_ HB.out aW;replace aX:=rc_ HB.out aX;replace aY:=rc_ HB.out aY;replace aZ:=rc_ HB.out aZ;have bo:=D a3;have bp:=D a0;clear a3 a0;replace an:=eq_true an;replace ao:=eq_true ao
     go_upto_if 36 with (first|((with_reducible refine gate_calleeV (j:=25) rfl ?_);obtain ⟨_,hF1_,hF2_,hF3_⟩:=hq2.out;refine goesVL_ (some 32) rfl rfl hF1_ hF2_ hF3_ #[.agg #[I L ((qc_ l0_5 Ja).f1.f0),I L ((qc_ l0_5 Ja).f1.f1.f0),I L ((qc_ l0_5 Ja).f1.f1.f1),I L ((qc_ l0_5 Ja).f1.f1.f2),Y bl ((qc_ l0_5 Ja).f1.f2).length bm]] (cp:=ah) rfl Z93 Z24 ?_;(with_reducible refine (HP2_27.out ((qc_ l0_5 Ja).f1.f0) ((qc_ l0_5 Ja).f1.f1.f0) ((qc_ l0_5 Ja).f1.f1.f1) ((qc_ l0_5 Ja).f1.f1.f2) _ _ ((qc_ l0_5 Ja).f1.f2) Od Xd Je Ke Xc Kg _ ?side1 ?side2 ?side3 bk.out).mono ?_);(case side1=>exact pB_ HB.out);(case side2=>exact pC_ (Kd.C_below bo.out HB.out));(case side3=>exact bp.out);rintro e bU ⟨Kr,rfl,y,hb⟩;refine ⟨_,rfl,?_⟩;have n_:=an_ (Kd.R_lower y (qk_ (pB_ HB.out)))<|an_ (qa_ (pk_ Ma.out) hb)<|an_ (qa_ (pk_ Ka.out) hb)<|D (qd_ (pB_ HB.out) hb);clear Ma Ka HB;obtain ⟨Xb,Ma,Ka,HB⟩:=n_;(try clear hb);(try clear y))|((with_reducible refine qh_ (N:=10) rfl ?_);refine bx_ (N:=10) (cs:=#[I L 0,I L 0,I L 0,I L 0,Y none 0 0]) (t:=34) ?_;intro Jc hg bV hbox hb;have n_:=an_ (Kd.R_below (pR_ Xb.out) hb)<|an_ (qa_ (pk_ Ma.out) hb)<|an_ (qa_ (pk_ Ka.out) hb)<|an_ (qd_ (pB_ HB.out) hb)<|an_ (hbox)<|an_ (bg_ hg (pB_ HB.out):w.heap.size≤Jc)<|an_ (bg_ hg (pB_ HB.out):w.heap.size≤Jc)<|an_ (nl_ hg (pk_ Ma.out):Jd≠Jc)<|an_ (ng_ hg (pk_ Ma.out):Jc≠Jd)<|an_ (nl_ hg (pk_ Ka.out):Kb≠Jc)<|D (by rw [hg];exact Nat.ne_of_gt (qt_ (pk_ Ka.out)):Jc≠Kb);clear Xb Ma Ka HB;obtain ⟨Xb,Ma,Ka,HB,Ua,Mr,Ur,Mf,Ug,Xe,Og⟩:=n_;clear hb hbox hg;(try have:=Ug.out);(try have:=Mf.out);(try have:=Og.out);(try have:=Xe.out);obtain ⟨Xr,Js,Ks,Ms,Os,Us,Xs,Ju,Ku,Mu⟩:=qx_ Ua.out;obtain ⟨Me,Oe,bq⟩:=Kd.R_slice Xb.out;subst bq))
     refine relet_ (F:=fun z=>Aside0 (Kd.R k75 75 z w.heap.size (fun _=>True) (Y Me Xc.length Oe) Xc)∧Aside0 (z.heap[Jd]?=some (.cells #[I L c,I L d,I L g,I L i,Y l b.length m,Y (some ap) l0_5.length o] 37 (0,0)))∧Aside0 (z.heap[Kb]?=some (.cells #[I L 0,I L 0,I L 0,I L 0,Y none 0 0,Y none 0 0] 37 (0,0)))∧Aside0 (z.heap[Jc]?=some (.cells #[I L Od,I L Xd,I L Je,I L Ke,Y Me Xc.length Oe] 34 (0,0)))∧Aside0 (Below w.heap.size w z)) ⟨⟨rM_ (Kd.R_types Xb.out Ua.out (by decide)) (fun _ hk=>trivial)⟩,⟨pP_ Ma.out⟩,⟨pP_ Ka.out⟩,⟨pP_ Ua.out⟩,⟨pB_ HB.out⟩⟩ ?_;(try clear Xb);(try clear Ma);(try clear Ka);(try clear Ua);(try clear HB);rintro z ⟨Xb,Ma,Ka,Ua,HB⟩;have H:=aT.out;clear aT
     by_cases r:Kg=0
     ·rw [if_pos r] at H
      have aq:(Kg == 0)=true:=beq_iff_eq.mpr r;have bs:(Kg != 0)=false:=bne_eq_false_iff_eq.mpr r;clear r;refine rw_ aq ?_;obtain ⟨⟨Mb,Kc,Uc,Md,Ob,Jb⟩,a4,H⟩:=bs_.mp H;(try dsimp only at H);have bu:=D a4;clear a4
      by_cases ae:Ja < (Jb.length:Int)
      ·rw [if_pos ae] at H
       have bW:decide (Ja < (Jb.length:Int))=true:=decide_eq_true ae;clear ae;obtain ⟨a5,J⟩:∃ y_:List (S54),y_=(Jb.set (Ja:Int).toNat (⟨(qc_ Jb Ja).f0,(⟨Od,(⟨Xd,Je,Ke⟩:S31),Xc⟩:S34)⟩:S54)):=⟨_,rfl⟩
       replace H:(some (Mb,Kc,Uc,Md,Ob,a5,Ja,0))=some (O,P,T,U,W,X,Z,r8):=by first|(rw [J];with_reducible exact H)|(have H2_:=(Option.bind_some _ _).symm.trans H;rw [J];with_reducible exact H2_)|(have H2_:=(Option.bind_some _ _).symm.trans H;with_reducible exact H2_)|with_reducible exact H|(rw [J];exact H)|exact H
       have bv:=D J;clear J;simp only [Option.some.injEq,Prod.mk.injEq] at H;obtain ⟨rfl,rfl,rfl,rfl,rfl,rfl,rfl,rfl⟩:=H;(try have:=Jf.out);(try have:=Kf.out);(try have:=Mf.out);(try have:=Ug.out);obtain ⟨Ou,Uu,Xu,Jv,Kv,Mv,Ov,Uv,Xv,Jx,Kx,Mx⟩:=qm_ Ma.out
       go_wp2_with (first|((with_reducible refine qe_ (f:=53) rfl ?_);refine qp_ (some 40) rfl rfl Try.func53 (by kernel_rfl) rfl #[.agg #[I L c,I L d,I L g,I L i,Y l b.length m,Y (some ap) l0_5.length o]] rfl Z24 ?_;(with_reducible refine (impl_copyTree.calls k c d g i _ _ b _ _ l0_5 Mb Kc Uc Md Ob Jb _ ?side1 ?side2 ?side3 ?side4 bu.out).mono ?_);(case side1=>exact pC_ (Kd.C_below aj.out HB.out));(case side2=>exact ak.out);(case side3=>exact pC_ (Kd.C_below al.out HB.out));(case side4=>exact aN.out);rintro e bX ⟨Ox,Ux,rfl,y,a6,hb⟩;refine ⟨_,rfl,?_⟩;have n_:=an_ (Kd.R_elder' (pR_ Xb.out) (Kd.R_base y) hb)<|an_ (Kd.R_lower (nw_ y (pR_ Xb.out)) (qk_ (pB_ HB.out)))<|an_ (Kd.S_lower (Kd.S_new' a6 (Kd.R_lt (pR_ Xb.out))) (qk_ (pB_ HB.out)))<|an_ (qa_ (pk_ Ma.out) hb)<|an_ (qa_ (pk_ Ka.out) hb)<|an_ (qa_ (pk_ Ua.out) hb)<|D (qd_ (pB_ HB.out) hb);clear Xb Ma Ka Ua HB;obtain ⟨Xb,Ue,Ub,Ma,Ka,Ua,HB⟩:=n_;(try clear hb);(try clear y);(try clear a6))|((with_reducible refine qh_ (N:=12) rfl ?_);refine bx_ (N:=12) (cs:=#[I L 0,I L 0,I L 0,I L 0,Y none 0 0,Y none 0 0]) (t:=37) ?_;intro Xa hg bw hbox hb;have n_:=an_ (Kd.R_below (pR_ Xb.out) hb)<|an_ (Kd.R_below (pR_ Ue.out) hb)<|an_ (Kd.S_below (pS_ Ub.out) hb)<|an_ (qa_ (pk_ Ma.out) hb)<|an_ (qa_ (pk_ Ka.out) hb)<|an_ (qa_ (pk_ Ua.out) hb)<|an_ (qd_ (pB_ HB.out) hb)<|an_ (hbox)<|an_ (bg_ hg (pB_ HB.out):w.heap.size≤Xa)<|an_ (bg_ hg (pB_ HB.out):w.heap.size≤Xa)<|an_ (nl_ hg (pk_ Ma.out):Jd≠Xa)<|an_ (ng_ hg (pk_ Ma.out):Xa≠Jd)<|an_ (nl_ hg (pk_ Ka.out):Kb≠Xa)<|an_ (ng_ hg (pk_ Ka.out):Xa≠Kb)<|an_ (nl_ hg (pk_ Ua.out):Jc≠Xa)<|D (by rw [hg];exact Nat.ne_of_gt (qt_ (pk_ Ua.out)):Xa≠Jc);clear Xb Ue Ub Ma Ka Ua HB;obtain ⟨Xb,Ue,Ub,Ma,Ka,Ua,HB,Oa,Xx,Jy,Of,Jh,Uf,Kh,Xf,Mh⟩:=n_;clear hb hbox hg;(try have:=Jh.out);(try have:=Of.out);(try have:=Kh.out);(try have:=Uf.out);(try have:=Mh.out);(try have:=Xf.out);obtain ⟨Ky,My,Oy,Uy,Xy,Jz,Kz,Mz,Oz,Uz,Xz,Ja1⟩:=qm_ Oa.out;obtain ⟨Mc,Oc,bx⟩:=Kd.R_slice Ue.out;subst bx;obtain ⟨Jg,Ud,bA⟩:=Kd.S_slice Ub.out;subst bA)|((with_reducible refine qab_ (t:=37) (p:=12) rfl ?_);refine q4_ (t:=37) (p:=12) (v:=?vo_w48) (w1:=((((((bw.setCell ⟨Xa,0,none⟩ (I L Mb)).setCell ⟨Xa,1,none⟩ (I L Kc)).setCell ⟨Xa,2,none⟩ (I L Uc)).setCell ⟨Xa,3,none⟩ (I L Md)).setCell ⟨Xa,4,none⟩ (Y Mc Ob.length Oc)).setCell ⟨Xa,5,none⟩ (Y Jg Jb.length Ud))) ?hg ?ho ?hn ?hr ?_;(case ho=>rfl);(case hg=>rfl);(case hn=>rfl);(case hr=>first|(go_simp;done)|(go_simp;rfl));intro a hw;have a7:Aside0 (Kd.R k75 75 a w.heap.size (fun k_=>some k_≠(Y Mc Ob.length Oc:Value).ownBlock) (Y Me Xc.length Oe) Xc):=⟨(by rw [hw];exact (rM_ (Kd.R_types Xb.out Oa.out (by decide)) (fun _ hk=>hk.1.2)))⟩;have a8:Aside0 (Kd.R k75 75 a w.heap.size (fun k_=>some k_≠(Y Me Xc.length Oe:Value).ownBlock) (Y Mc Ob.length Oc) Ob):=⟨(by rw [hw];exact (rM_ (Kd.R_types Ue.out Oa.out (by decide)) (fun _ hk=>hk.1.2)))⟩;have a9:Aside0 (Kd.S k54 54 a w.heap.size (fun k_=>some k_≠(Y Me Xc.length Oe:Value).ownBlock∧some k_≠(Y Mc Ob.length Oc:Value).ownBlock) (Y Jg Jb.length Ud) Jb):=⟨(by rw [hw];exact (sM_ (Kd.S_types Ub.out Oa.out (by decide)) (fun _ hk=>⟨hk.1.2,hk.1.1⟩)))⟩;have ba:Aside0 (a.heap[Jd]?=some (.cells #[I L c,I L d,I L g,I L i,Y l b.length m,Y (some ap) l0_5.length o] 37 (0,0))):=⟨(by rw [hw];exact (by exact pP_ Ma.out))⟩;have bb:Aside0 (a.heap[Kb]?=some (.cells #[I L 0,I L 0,I L 0,I L 0,Y none 0 0,Y none 0 0] 37 (0,0))):=⟨(by rw [hw];exact (by exact pP_ Ka.out))⟩;have bc:Aside0 (a.heap[Jc]?=some (.cells #[I L Od,I L Xd,I L Je,I L Ke,Y Me Xc.length Oe] 34 (0,0))):=⟨(by rw [hw];exact (by exact pP_ Ua.out))⟩;have bd:Aside0 (a.heap[Xa]?=some (.cells #[I L Mb,I L Kc,I L Uc,I L Md,Y Mc Ob.length Oc,Y Jg Jb.length Ud] 37 (0,0))):=⟨(by rw [hw];exact (by exact pP_ Oa.out))⟩;have be:Aside0 (Below w.heap.size w a):=⟨(by rw [hw];exact (pB_ HB.out))⟩;clear hw;clear Xb;clear Ue;clear Ub;clear Ma;clear Ka;clear Ua;clear Oa;clear HB;have Xb:=a7;have Ue:=a8;have Ub:=a9;have Ma:=ba;have Ka:=bb;have Ua:=bc;have Oa:=bd;have HB:=be;clear a7 a8 a9 ba bb bc bd be;obtain ⟨Ka1,Ma1,Oa1,Ua1,Xa1,Jb1,Kb1,Mb1,Ob1,Ub1,Xb1,Jc1⟩:=qm_ Oa.out;(try have:=Og.out);(try have:=Xe.out);obtain ⟨Kc1,Mc1,Oc1,Uc1,Xc1,Jd1,Kd1,Md1,Od1,Ud1⟩:=qx_ Ua.out;have ar:0≤(Ja:Int):=od_ Z91;have au:(Ja:Int) < ((Jb.length:Int):Int):=od_ Z91;obtain ⟨go36,Xd1,bf,Xg,gl36,cl36,HG36⟩:=Kd.S_form Ub.out (by omega);(first|cases bf|(injection bf with ea_ en_ ec_;(first|subst ea_|(injection ea_ with ea_;subst ea_));subst ec_;clear en_));have K:=D Xg;have GG36:=D HG36;clear Xg gl36 HG36;obtain ⟨_,ce36,bB,bg,s,u,_,_⟩:=Kd.S_elem Ub.out z54 (Ja:Int) ar au;obtain ⟨ve36_5,rfl,ge36_5⟩:=qao_ bg;have bY:a.cell? ⟨go36,(Ja:Int).toNat * 6,none⟩=some (I L ((qc_ Jb Ja).f0)):=s 0 _ rfl;have bZ:a.cell? ⟨go36,(Ja:Int).toNat * 6+1,none⟩=some (I L ((qc_ Jb Ja).f1.f0)):=s 1 _ rfl;have b0:a.cell? ⟨go36,(Ja:Int).toNat * 6+2,none⟩=some (I L ((qc_ Jb Ja).f1.f1.f0)):=s 2 _ rfl;have b1:a.cell? ⟨go36,(Ja:Int).toNat * 6+3,none⟩=some (I L ((qc_ Jb Ja).f1.f1.f1)):=s 3 _ rfl;have b2:a.cell? ⟨go36,(Ja:Int).toNat * 6+4,none⟩=some (I L ((qc_ Jb Ja).f1.f1.f2)):=s 4 _ rfl;have b3:a.cell? ⟨go36,(Ja:Int).toNat * 6+5,none⟩=some (ve36_5):=s 5 _ rfl;have b4:a.frozen? ⟨go36,(Ja:Int).toNat * 6,none⟩=false:=u 0;have b5:a.frozen? ⟨go36,(Ja:Int).toNat * 6+1,none⟩=false:=u 1;have b6:a.frozen? ⟨go36,(Ja:Int).toNat * 6+2,none⟩=false:=u 2;have b7:a.frozen? ⟨go36,(Ja:Int).toNat * 6+3,none⟩=false:=u 3;have b8:a.frozen? ⟨go36,(Ja:Int).toNat * 6+4,none⟩=false:=u 4;have b9:a.frozen? ⟨go36,(Ja:Int).toNat * 6+5,none⟩=false:=u 5;clear bB s u bg;replace ar:=eq_true ar;replace au:=eq_true au;have bC:=D (show Kd.S k54 54 a w.heap.size (fun k_=>((fun k_=>some k_≠(Y Mc Ob.length Oc:Value).ownBlock)) k_∧¬ ((fun k_=>some k_=(Y Me Xc.length Oe:Value).ownBlock)) k_) (Y (some ⟨go36,0,none⟩) Jb.length Ud) Jb from (pS_ (Kd.S_mono Ub.out (fun k_ hk=>⟨hk.2,fun e_=>hk.1 e_⟩))));obtain ⟨oki52,ce52,bD,bh,A,B,hoki52,hH52⟩:=Kd.S_elem bC.out z54 (Ja:Int) (od_ Z91) (by have h_:(Ja:Int) < ((Jb.length:Int):Int):=od_ Z91;first|exact h_|(have e_:=(Kd.S_reads' Ub.out).1;omega)|simpa using h_);obtain ⟨ve52_5,rfl,ge52_5⟩:=qao_ bh;have HP52:=Kd.S_seg hH52 (od_ Z91) (by have h_:(Ja:Int) < ((Jb.length:Int):Int):=od_ Z91;first|exact h_|(have e_:=(Kd.S_reads' Ub.out).1;omega)|simpa using h_) (seg:=[I L Od,I L Xd,I L Je,I L Ke,Y Me Xc.length Oe]) (j:=1) (show 6≤6 from by decide) (x':=(⟨(qc_ Jb Ja).f0,(⟨Od,(⟨Xd,Je,Ke⟩:S31),Xc⟩:S34)⟩:S54)) (k54_mkM _ _ _ (⟨(qc_ Jb Ja).f0,(⟨Od,(⟨Xd,Je,Ke⟩:S31),Xc⟩:S34)⟩:S54) (Kd.R_mono (Kd.R_tight rfl (Kd.R_mono (ok':=fun k_=>((fun k_=>some k_≠(Y Mc Ob.length Oc:Value).ownBlock)) k_∧k_≠go36) (Kd.R_apart' (Xb.out) (Kd.S_typed Ub.out) (by decide)) (fun k_ hk=>⟨hk.1,fun e_=>(hk.2) (by rw [e_];rfl)⟩))) (fun _ h_=>Or.inr (h_)))) (fun _ hk=>hk) (fun k_ hk_=>((Kd.R_mono (ok':=fun k_=>((fun k_=>some k_≠(Y Mc Ob.length Oc:Value).ownBlock)) k_∧k_≠go36) (Kd.R_apart' (Xb.out) (Kd.S_typed Ub.out) (by decide)) (fun k_ hk=>⟨hk.1,fun e_=>(hk.2) (by rw [e_];rfl)⟩))).1 k_ hk_.symm);have bE:=A 1 _ rfl;(try simp only [show (k54).sz=6 from rfl,Nat.mul_one,Nat.add_zero] at bE);have bF:=B 1;(try simp only [show (k54).sz=6 from rfl,Nat.mul_one,Nat.add_zero] at bF);have bG:=A 2 _ rfl;(try simp only [show (k54).sz=6 from rfl,Nat.mul_one,Nat.add_zero] at bG);have bH:=B 2;(try simp only [show (k54).sz=6 from rfl,Nat.mul_one,Nat.add_zero] at bH);have bI:=A 3 _ rfl;(try simp only [show (k54).sz=6 from rfl,Nat.mul_one,Nat.add_zero] at bI);have bJ:=B 3;(try simp only [show (k54).sz=6 from rfl,Nat.mul_one,Nat.add_zero] at bJ);have bK:=A 4 _ rfl;(try simp only [show (k54).sz=6 from rfl,Nat.mul_one,Nat.add_zero] at bK);have bL:=B 4;(try simp only [show (k54).sz=6 from rfl,Nat.mul_one,Nat.add_zero] at bL);have bM:=A 5 _ rfl;(try simp only [show (k54).sz=6 from rfl,Nat.mul_one,Nat.add_zero] at bM);have bN:=B 5;(try simp only [show (k54).sz=6 from rfl,Nat.mul_one,Nat.add_zero] at bN);clear bD A B bh hoki52 hH52)|((with_reducible refine qab_ (t:=34) (p:=46) rfl ?_);refine q4_ (t:=34) (p:=46) (v:=?vo_w53) (w1:=(((((a.setCell ⟨go36,(Ja:Int).toNat * 6+1,none⟩ (I L Od)).setCell ⟨go36,(Ja:Int).toNat * 6+2,none⟩ (I L Xd)).setCell ⟨go36,(Ja:Int).toNat * 6+3,none⟩ (I L Je)).setCell ⟨go36,(Ja:Int).toNat * 6+4,none⟩ (I L Ke)).setCell ⟨go36,(Ja:Int).toNat * 6+5,none⟩ (Y Me Xc.length Oe))) ?hg ?ho ?hn ?hr ?_;(case ho=>rfl);(case hg=>rfl);(case hn=>rfl);(case hr=>first|(go_simp;done)|(go_simp;rfl));intro av hw;have hg:a.grownBy av (some go36):=(by rw [hw];exact HP52.2);have hp_:Kd.S k54 54 av w.heap.size (fun k_=>some k_≠(Y Mc Ob.length Oc:Value).ownBlock) (Y (some ⟨go36,0,none⟩) Jb.length Ud) a5:=(by rw [hw,bv.out];exact HP52.1);clear HP52;have n_:=an_ (qw_ (pk_ Ma.out) hg (Kd.S_ne Ub.out Ma.out (by decide)))<|an_ (qw_ (pk_ Ka.out) hg (Kd.S_ne Ub.out Ka.out (by decide)))<|an_ (qw_ (pk_ Ua.out) hg (Kd.S_ne Ub.out Ua.out (by decide)))<|an_ (Kd.R_over' (v:=(Y (some ⟨go36,0,none⟩) Jb.length Ud)) (pR_ Ue.out) (Kd.S_typed Ub.out) (by decide) hg)<|an_ (hp_)<|an_ (qw_ (pk_ Oa.out) hg (Kd.S_ne Ub.out Oa.out (by decide)))<|D (by rw [hw];exact qr_ (qr_ (qr_ (qr_ (qr_ (HB.out) K.out) K.out) K.out) K.out) K.out:Below w.heap.size w av);clear Ma Ka Ua Ue Ub Oa HB Xb;obtain ⟨Ma,Ka,Ua,Ue,Ub,Oa,HB⟩:=n_;clear hg hw hp_;obtain ⟨Je1,Ke1,Me1,Oe1,Ue1,Xe1,Jf1,Kf1,Mf1,Of1,Uf1,Xf1⟩:=qm_ Oa.out;obtain ⟨Jg1,Kg1,Mg1,Og1,Ug1,Xg1,Jh1,Kh1,Mh1,Oh1,Uh1,Xh1⟩:=qm_ Ka.out))
       refine bodyPost_ret (results_ctt rfl _ _ Kb 37 #[I L Mb,I L Kc,I L Uc,I L Md,Y Mc Ob.length Oc,Y (some ⟨go36,0,none⟩) Jb.length Ud] (0,0) _ rfl (by exact pP_ Ka.out) Try.underlying37 rfl (by kernel_rfl)) rfl ?_;exact ⟨_,_,er_,by (with_reducible repeat (first|apply Kd.R_alloc|apply Kd.R_drewN|apply Kd.R_drew));exact Kd.R_mono (fr_ (fr_ (fr_ (fr_ (fr_ (fr_ (Kd.R_types Ue.out Ka.out (by decide)) 0 (I L Mb)) 1 (I L Kc)) 2 (I L Uc)) 3 (I L Md)) 4 (Y Mc Ob.length Oc)) 5 (Y (some ⟨go36,0,none⟩) Jb.length Ud)) (fun _ hk=>trivial),by (with_reducible repeat (first|apply Kd.S_alloc|apply Kd.S_drewN|apply Kd.S_drew));exact Kd.S_mono (Kd.S_far (p:=⟨Kb,5,none⟩) (Kd.S_far (p:=⟨Kb,4,none⟩) (Kd.S_far (p:=⟨Kb,3,none⟩) (Kd.S_far (p:=⟨Kb,2,none⟩) (Kd.S_far (p:=⟨Kb,1,none⟩) (Kd.S_far (p:=⟨Kb,0,none⟩) (Kd.S_types Ub.out Ka.out (by decide)) (fun _ hk=>hk.2) (I L Mb)) (fun _ hk=>hk.2) (I L Kc)) (fun _ hk=>hk.2) (I L Uc)) (fun _ hk=>hk.2) (I L Md)) (fun _ hk=>hk.2) (Y Mc Ob.length Oc)) (fun _ hk=>hk.2) (Y (some ⟨go36,0,none⟩) Jb.length Ud)) (fun _ hk=>hk.1),pB_ HB.out⟩
      ·rw [if_neg ae] at H
       exact absurd H (by simp)
     ·rw [if_neg r] at H
      have aq:(Kg == 0)=false:=beq_eq_false_iff_ne.mpr r;have bs:(Kg != 0)=true:=bne_iff_ne.mpr r;refine rw_ aq ?_;simp only [Option.some.injEq,Prod.mk.injEq] at H;obtain ⟨rfl,rfl,rfl,rfl,rfl,rfl,rfl,rfl⟩:=H;(try have:=Kf.out);(try have:=Jf.out);(try have:=Xe.out);(try have:=Og.out);obtain ⟨Ji1,Ki1,Mi1,Oi1,Ui1,Xi1,Jj1,Kj1,Mj1,Oj1,Uj1,Xj1⟩:=qm_ Ka.out
      go_wp2
      refine bodyPost_ret (results_ctt rfl _ _ Kb 37 #[I L 0,I L 0,I L 0,I L 0,Y none 0 0,Y none 0 0] (0,0) _ rfl Z4 Try.underlying37 rfl (by kernel_rfl)) rfl ?_;exact ⟨_,_,er_,by first|exact Kd.R_nil _ _ _ _ _|exact Kd.N_nil _ _ _ _ _|exact Kd.V_nil _ _ _ _ _|exact Kd.Q_nil _ _ _ _ _|exact Kd.S_nil _ _ _ _ _,by first|exact Kd.S_nil _ _ _ _ _|exact Kd.N_nil _ _ _ _ _|exact Kd.V_nil _ _ _ _ _|exact Kd.Q_nil _ _ _ _ _|exact Kd.R_nil _ _ _ _ _,pB_ HB.out⟩
    ·rw [if_neg ad] at H
     exact absurd H (by simp)
   ·rw [if_neg ac] at H
    exact absurd H (by simp)
 ·replace ab:=Bool.eq_false_iff.mpr ab
  subst ab;rw [if_neg (show ¬ (false=true) by decide)] at H;simp only [Option.some.injEq,Prod.mk.injEq] at H;obtain ⟨rfl,rfl,rfl,rfl,rfl,rfl,rfl,rfl⟩:=H;(try have:=Kf.out);(try have:=Jf.out);obtain ⟨Jk1,Kk1,Mk1,Ok1,Uk1,Xk1,Jm1,Km1,Mm1,Om1,Um1,Xm1⟩:=qm_ Ka.out
  go_wp2
  refine bodyPost_ret (results_ctt rfl _ _ Kb 37 #[I L 0,I L 0,I L 0,I L 0,Y none 0 0,Y none 0 0] (0,0) _ rfl Z4 Try.underlying37 rfl (by kernel_rfl)) rfl ?_;exact ⟨_,_,er_,by first|exact Kd.R_nil _ _ _ _ _|exact Kd.N_nil _ _ _ _ _|exact Kd.V_nil _ _ _ _ _|exact Kd.Q_nil _ _ _ _ _|exact Kd.S_nil _ _ _ _ _,by first|exact Kd.S_nil _ _ _ _ _|exact Kd.N_nil _ _ _ _ _|exact Kd.V_nil _ _ _ _ _|exact Kd.Q_nil _ _ _ _ _|exact Kd.R_nil _ _ _ _ _,pB_ HB.out⟩
end Go.Proofs.Ytjhgkonacdimfac.PFnExactTreeServe
