-- by a program of this session's, over the kit's words
import Derived.Test.YtpkdkhhknmlpjaaPZFnTakenAdds
import Derived.Test.YtpkdkhhknmlpjaaPFnTakenAddsx0
import Derived.Test.YtpkdkhhknmlpjaaPFnTakenAddsx16
namespace Go.Proofs.Ytpkdkhhknmlpjaa.PFnTakenAdds
open Go.RowKit Go.Proofs.YtpkdkhhknmlpjaaW.PrintWords Go.Proofs.YtpkdkhhknmlpjaaW.PrintLast Go.Proofs.YtpkdkhhknmlpjaaW.PrintMore Go.Proofs.YtpkdkhhknmlpjaaV Go.Proofs.Ytpkdkhhknmlpjaa.ZFnTakenAdds
open Go.Value renaming int → I, slice → Y
open Go.IntKind renaming i64 → L
open Aside0 renaming mk → D
open Option renaming bind_eq_some_iff → bs_
attribute [local go_sem] max2_int min2_int max_two min_two max_three min_three max_four min_four
set_option linter.unusedVariables false
set_option linter.unusedSimpArgs false
set_option maxHeartbeats 8000000
set_option maxRecDepth 100000
def spec_l19Span.f (k:Nat) (l0:List (S44)) (a b:Int):Option (Bool):=if a ≥ 0 then (if a≤b then (if b≤(l0.length:Int) then ((spec_DealsOk.f k l0).bind fun c=>(some c)) else (some false)) else (some false)) else (some false)
theorem spec_l19Span.calls (k:Nat) (d:Option Addr) (g:Nat) (l0:List (S44)) (a b:Int) (r:Bool) (w:World) (i:Kd.C k44 w d l0.length l0) (j:l0.length≤g) (h:spec_l19Span.f k l0 a b=some r) :
  Calls Try.prog 27 #[Y d l0.length g,I L a,I L b] w fun e w'=>e=.returned (.bool r)∧Below w.heap.size w w':=by
 have n:=D i
 have o:=D j
 clear i j
 have HB:=D (Below.refl w.heap.size w)
 have H:(if a ≥ 0 then (if a≤b then (if b≤(l0.length:Int) then ((spec_DealsOk.f k l0).bind fun c=>(some c)) else (some false)) else (some false)) else (some false))=some r:=h
 clear h
 by_cases c4:a ≥ 0
 ·rw [if_pos c4] at H
  have p:decide (0≤a)=true:=decide_eq_true c4;clear c4
  by_cases c5:a≤b
  ·rw [if_pos c5] at H
   have q:decide (a≤b)=true:=decide_eq_true c5;clear c5
   by_cases c6:b≤(l0.length:Int)
   ·rw [if_pos c6] at H
    have s:decide (b≤(l0.length:Int))=true:=decide_eq_true c6;clear c6;obtain ⟨c,l,H⟩:=bs_.mp H;(try dsimp only at H);have t:=D l;clear l;obtain rfl:=Option.some.inj H;go_enter Try.func27,Try.ntmps27
    go_wp2_with (first|(go_at_call 6;(with_reducible refine (spec_DealsOk.calls k _ _ l0 c _ ?side1 ?side2 t.out).mono ?_);(case side1=>exact pC_ n.out);(case side2=>exact o.out);rintro e u ⟨rfl,hb⟩;have m:=D (below_step (pB_ HB.out) hb);clear HB;have HB:=m;clear m;(try clear hb)))
    go_ret;exact ⟨er_,pB_ HB.out⟩
   ·rw [if_neg c6] at H
    have s:decide (b≤(l0.length:Int))=false:=decide_eq_false c6;clear c6;obtain rfl:=Option.some.inj H;go_enter Try.func27,Try.ntmps27
    go_wp2
    go_ret;exact ⟨er_,pB_ HB.out⟩
  ·rw [if_neg c5] at H
   have q:decide (a≤b)=false:=decide_eq_false c5;clear c5;obtain rfl:=Option.some.inj H;go_enter Try.func27,Try.ntmps27
   go_wp2
   go_ret;exact ⟨er_,pB_ HB.out⟩
 ·rw [if_neg c4] at H
  have p:decide (0≤a)=false:=decide_eq_false c4;clear c4;obtain rfl:=Option.some.inj H;go_enter Try.func27,Try.ntmps27
  go_wp2
  go_ret;exact ⟨er_,pB_ HB.out⟩
def spec_l19Sum.l0:Nat→List (S44)→Int→Int→Int→Int→Option (Int×Int×Int)
 | 0,_,_,_,_,_=>none
 | k+1,b,a,c,d,e=>if a < (b.length:Int) then (if 0≤a then (spec_l19Sum.l0 k b (wrap64 (a+1)) (wrap64 (c+((rd_T44 b a).f2.f0))) (wrap64 (d+((rd_T44 b a).f2.f1))) (wrap64 (e+((rd_T44 b a).f2.f2)))) else (none)) else (some (c,d,e))
def spec_l19Sum.f (k:Nat) (l0:List (S44)):Option (Int×Int×Int):=spec_l19Sum.l0 k l0 0 0 0 0
def spec_l19Sum.T5:Bool×List (List Nat×List Nat):=(true,[([],[]),([0],[0]),([],[]),([],[]),([2,3],[2,3]),([4],[4]),([5],[5]),([6],[6]),([1,7],[1,7]),([0,1,2,3,4,5,6,7,8],[]),([9,8,0,1,2,3,4,5,6,7,8],[8,9])])
def spec_l19Sum.B5:List Nat:=[0,1,0,0,12,28,60,124,255,511,1023]
theorem spec_l19Sum.tab5:rtab .any (opsOf Try.f28 5)=spec_l19Sum.T5:=by kernel_rfl
theorem spec_l19Sum.bits5:waitsOk spec_l19Sum.T5.2 spec_l19Sum.B5=true:=by kernel_rfl
def spec_l19Sum.T6:Bool×List (List Nat×List Nat):=(true,[([],[]),([0],[0]),([],[]),([],[]),([2,3],[2,3]),([4],[4]),([5],[5]),([6],[6]),([1,7],[1,7]),([0,1,2,3,4,5,6,7,8],[]),([9,8,0,1,2,3,4,5,6,7,8],[8,9])])
def spec_l19Sum.B6:List Nat:=[0,1,0,0,12,28,60,124,255,511,1023]
theorem spec_l19Sum.tab6:rtab .any (opsOf Try.f28 6)=spec_l19Sum.T6:=by kernel_rfl
theorem spec_l19Sum.bits6:waitsOk spec_l19Sum.T6.2 spec_l19Sum.B6=true:=by kernel_rfl
def spec_l19Sum.T7:Bool×List (List Nat×List Nat):=(true,[([],[]),([0],[0]),([],[]),([],[]),([2,3],[2,3]),([4],[4]),([5],[5]),([6],[6]),([1,7],[1,7]),([0,1,2,3,4,5,6,7,8],[]),([9,8,0,1,2,3,4,5,6,7,8],[8,9])])
def spec_l19Sum.B7:List Nat:=[0,1,0,0,12,28,60,124,255,511,1023]
theorem spec_l19Sum.tab7:rtab .any (opsOf Try.f28 7)=spec_l19Sum.T7:=by kernel_rfl
theorem spec_l19Sum.bits7:waitsOk spec_l19Sum.T7.2 spec_l19Sum.B7=true:=by kernel_rfl
theorem spec_l19Sum.calls (k:Nat) (A0:Option Addr) (c0:Nat) (l0:List (S44)) (j l m:Int) (w:World) (ag:Kd.C k44 w A0 l0.length l0) (ah:l0.length≤c0) (h:spec_l19Sum.f k l0=some (j,l,m)) :
  Calls Try.prog 28 #[Y A0 l0.length c0] w fun e w'=>e=.returned (.agg #[I L j,I L l,I L m])∧Below w.heap.size w w':=by
 have hu29:=Try.underlying29
 have W:=D ag
 have a3:=D ah
 clear ag ah
 have HB:=D (Below.refl w.heap.size w)
 have H:(spec_l19Sum.l0 k l0 0 0 0 0)=some (j,l,m):=h
 clear h
 have H':=D H
 clear H
 go_enter Try.func28,Try.ntmps28
 go_wp2_with (first|((with_reducible refine gate_dst (N:=2) rfl ?_);refine bx_ (N:=2) (cs:=#[I L 0,I L 0,I L 0]) (t:=29) ?_;intro Kb hg w2 hbox hb;have n_:=an_ (below_step (pB_ HB.out) hb)<|an_ (hbox)<|an_ (bg_ hg (pB_ HB.out):w.heap.size≤Kb)<|D (bg_ hg (pB_ HB.out):w.heap.size≤Kb);clear HB;obtain ⟨HB,Ma,Oc,Uc⟩:=n_;clear hb hbox hg)|((with_reducible refine gate_dst (N:=3) rfl ?_);refine bx_ (N:=3) (cs:=#[I L 0,I L 0,I L 0]) (t:=29) ?_;intro Ka hg w3 hbox hb;have n_:=an_ (blk_below (pk_ Ma.out) hb)<|an_ (below_step (pB_ HB.out) hb)<|an_ (hbox)<|an_ (bg_ hg (pB_ HB.out):w.heap.size≤Ka)<|an_ (bg_ hg (pB_ HB.out):w.heap.size≤Ka)<|an_ (nl_ hg (pk_ Ma.out):Kb≠Ka)<|D (by rw [hg];exact Nat.ne_of_gt (blk_lt (pk_ Ma.out)):Ka≠Kb);clear Ma HB;obtain ⟨Ma,HB,Ja,Xc,Jd,Jb,Mb⟩:=n_;clear hb hbox hg;(try have:=Mb.out);(try have:=Jb.out);have Ob:=cells3 Ja.out))
 go_loopg [4] k (fun kq v4 w'=>∃ (a:Int) (Oa:Int) (Ua:Int) (Xa:Int),v4=I L a∧Aside0 (spec_l19Sum.l0 kq l0 a Oa Ua Xa=some (j,l,m))∧Aside0 (kq≤k)∧Aside0 (w'.heap[Kb]?=some (.cells #[I L 0,I L 0,I L 0] 29 (0,0)))∧Aside0 (w'.heap[Ka]?=some (.cells #[I L Oa,I L Ua,I L Xa] 29 (0,0)))∧Aside0 (Below w.heap.size w w'))
 case atStart=>exact ⟨(0),(0),(0),(0),Z69,H',⟨Nat.le_refl _⟩,⟨pP_ Ma.out⟩,⟨pP_ Ja.out⟩,⟨pB_ HB.out⟩⟩
 case round =>
  clear H'
  (try clear c2);(try clear p2);(try clear c4);(try clear Ob)
  obtain ⟨a,Oa,Ua,Xa,rfl,HA,ai,Ma,Ja,HB⟩:=hrel
  cases gk with
  | zero=>exact absurd HA.out (by simp [spec_l19Sum.l0])
  | succ k1 =>
   have H:=HA.out;clear HA;simp only [spec_l19Sum.l0] at H
   by_cases c6:a < (l0.length:Int)
   ·rw [if_pos c6] at H
    have au:decide (a < (l0.length:Int))=true:=decide_eq_true c6;clear c6
    by_cases c7:0≤a
    ·rw [if_pos c7] at H
     have a7:decide (0≤a)=true:=decide_eq_true c7;clear c7;have H':=D H;clear H
     try go_wp2
     have n_:=an_ (blk_drew Ma.out)<|an_ (blk_drew Ja.out)<|D (below_drew1 HB.out)
     clear Ma Ja HB;obtain ⟨Ma,Ja,HB⟩:=n_;have X:0≤(a:Int):=od_ Z68;have Z:a < (l0.length:Int):=od_ Z68;obtain ⟨b,av,aw,ax,o,p,q,r,s,u,aj,ak⟩:=at_T44 W.out a X Z;have ay:=u;have az:=s;have aA:=r;have aB:=q;have aC:=p;have aD:=o;cases ax;replace o:=rc_ HB.out o;replace p:=rc_ HB.out p;replace q:=rc_ HB.out q;replace r:=rc_ HB.out r;replace s:=rc_ HB.out s;replace u:=rc_ HB.out u;have aE:=D ak;have a8:=D aj;clear ak aj;replace X:=eq_true X;replace Z:=eq_true Z;refine start_ (n:=11) (S:=fun w'=>w'.cell? ⟨Ka,0,none⟩=some (I L Oa)∧w'.cell? ⟨Ka,1,none⟩=some (I L Ua)∧w'.cell? ⟨Ka,2,none⟩=some (I L Xa)∧w'.cell? (b.add ((a).toNat * 6))=some (I L ((rd_T44 l0 a).f0))∧w'.cell? ⟨(b.add ((a).toNat * 6)).block,(b.add ((a).toNat * 6)).off+1,none⟩=some (I L ((rd_T44 l0 a).f1))∧w'.cell? ⟨(b.add ((a).toNat * 6)).block,(b.add ((a).toNat * 6)).off+2,none⟩=some (I L ((rd_T44 l0 a).f2.f0))∧w'.cell? ⟨(b.add ((a).toNat * 6)).block,(b.add ((a).toNat * 6)).off+3,none⟩=some (I L ((rd_T44 l0 a).f2.f1))∧w'.cell? ⟨(b.add ((a).toNat * 6)).block,(b.add ((a).toNat * 6)).off+4,none⟩=some (I L ((rd_T44 l0 a).f2.f2))∧w'.cell? ⟨(b.add ((a).toNat * 6)).block,(b.add ((a).toNat * 6)).off+5,none⟩=some (Y av ((rd_T44 l0 a).f3).length aw)) (ds:=[10]) (bz 11 0) (by kernel_rfl) rfl (by kernel_rfl) (bk3_ Ja.out (re6_ HB.out aD aC aB aA az ay)) (fun hHeld=>?_);refine with_tabW spec_l19Sum.tab5 spec_l19Sum.bits5 (fun HT_ HW_=>?_);generalize wr.drew=w8 at Ma Ja HB aE o p q r s u hHeld ⊢;refine pb_ 0 ?_;refine pb_ 2 ?_;refine pb_ 3 ?_;refine pb_ 4 ?_;refine pb_ 5 ?_;refine pb_ 6 ?_;refine tb_ 1 rfl rfl hHeld Z63 ?_;refine tb_ 7 rfl rfl hHeld Z63 ?_;refine pb_ 8 ?_;refine pb_ 9 ?_;refine last_ (i:=10) (N:=none) (bz 11 2047) rfl rfl (one_of HT_.out (by kernel_rfl)) (by decide) (fun K hK=>?_);have a9:=bc_ Ja.out 0;have a9f:=blk_frozen Ja.out 0
     have ba:=Jb.out;have bb:=Mb.out;refine skip_ (w1:=?_) (by rfl) rfl ?_ ?_;rotate_left
     ·go_simp
      rfl
     refine hK.out _ _ ?_;clear hK K;refine done_ (done_of HT_.out (by kernel_rfl)) ?_
     try go_wp2
     obtain ⟨v,hq_⟩:∃ W_,W_=(w8.setCell ⟨Ka,0,none⟩ (I L (wrap64 (Oa+((rd_T44 l0 a).f2.f0))))):=⟨_,rfl⟩;have c:Aside0 (v.heap[Kb]?=some (.cells #[I L 0,I L 0,I L 0] 29 (0,0))):=⟨by rw [hq_];exact pP_ Ma.out⟩;have d:Aside0 (v.heap[Ka]?=some (.cells #[I L (wrap64 (Oa+((rd_T44 l0 a).f2.f0))),I L Ua,I L Xa] 29 (0,0))):=⟨by rw [hq_];exact pP_ Ja.out⟩;have g:Aside0 (Below w.heap.size w v):=⟨by rw [hq_];exact pB_ HB.out⟩;(try clear Ma);(try clear Ja);(try clear HB);(try rw [←hq_]);clear hq_;have Ma:=c;have Ja:=d;have HB:=g;clear c d g
     have n_:=an_ (blk_drew Ma.out)<|an_ (blk_drew Ja.out)<|D (below_drew1 HB.out)
     clear Ma Ja HB;obtain ⟨Ma,Ja,HB⟩:=n_;have aa:0≤(a:Int):=od_ Z68;have ab:a < (l0.length:Int):=od_ Z68;obtain ⟨aG,aH,aI,aJ,x,y,z,A,B,E,al,am⟩:=at_T44 W.out a aa ab;have aK:=E;have aL:=B;have aM:=A;have aN:=z;have aO:=y;have aP:=x;obtain rfl:b=aG:=(by injection aJ);replace x:=rc_ HB.out x;replace y:=rc_ HB.out y;replace z:=rc_ HB.out z;replace A:=rc_ HB.out A;replace B:=rc_ HB.out B;replace E:=rc_ HB.out E;have aQ:=D am;have bc:=D al;clear am al;replace aa:=eq_true aa;replace ab:=eq_true ab;refine start_ (n:=11) (S:=fun w'=>w'.cell? ⟨Ka,0,none⟩=some (I L (wrap64 (Oa+((rd_T44 l0 a).f2.f0))))∧w'.cell? ⟨Ka,1,none⟩=some (I L Ua)∧w'.cell? ⟨Ka,2,none⟩=some (I L Xa)∧w'.cell? (b.add ((a).toNat * 6))=some (I L ((rd_T44 l0 a).f0))∧w'.cell? ⟨(b.add ((a).toNat * 6)).block,(b.add ((a).toNat * 6)).off+1,none⟩=some (I L ((rd_T44 l0 a).f1))∧w'.cell? ⟨(b.add ((a).toNat * 6)).block,(b.add ((a).toNat * 6)).off+2,none⟩=some (I L ((rd_T44 l0 a).f2.f0))∧w'.cell? ⟨(b.add ((a).toNat * 6)).block,(b.add ((a).toNat * 6)).off+3,none⟩=some (I L ((rd_T44 l0 a).f2.f1))∧w'.cell? ⟨(b.add ((a).toNat * 6)).block,(b.add ((a).toNat * 6)).off+4,none⟩=some (I L ((rd_T44 l0 a).f2.f2))∧w'.cell? ⟨(b.add ((a).toNat * 6)).block,(b.add ((a).toNat * 6)).off+5,none⟩=some (Y aH ((rd_T44 l0 a).f3).length aI)) (ds:=[10]) (bz 11 0) (by kernel_rfl) rfl (by kernel_rfl) (bk3_ Ja.out (re6_ HB.out aP aO aN aM aL aK)) (fun hHeld=>?_);refine with_tabW spec_l19Sum.tab6 spec_l19Sum.bits6 (fun HT_ HW_=>?_);generalize v.drew=an at Ma Ja HB aQ x y z A B E hHeld ⊢;refine pb_ 0 ?_;refine pb_ 2 ?_;refine pb_ 3 ?_;refine pb_ 4 ?_;refine pb_ 5 ?_;refine pb_ 6 ?_;refine tb_ 1 rfl rfl hHeld Z63 ?_;refine tb_ 7 rfl rfl hHeld Z63 ?_;refine pb_ 8 ?_;refine pb_ 9 ?_;refine last_ (i:=10) (N:=none) (bz 11 2047) rfl rfl (one_of HT_.out (by kernel_rfl)) (by decide) (fun K hK=>?_);have bd:an.cell? ⟨Ka,1,none⟩=some (I L Ua):=(bc_ Ja.out 1)
     have be:=blk_frozen Ja.out 1;have bf:=Jb.out;have bg:=Mb.out;refine skip_ (w1:=?_) (by rfl) rfl ?_ ?_;rotate_left
     ·go_simp
      rfl
     refine hK.out _ _ ?_;clear hK K;refine done_ (done_of HT_.out (by kernel_rfl)) ?_
     try go_wp2
     obtain ⟨G,hq_⟩:∃ W_,W_=(an.setCell ⟨Ka,1,none⟩ (I L (wrap64 (Ua+((rd_T44 l0 a).f2.f1))))):=⟨_,rfl⟩;have c:Aside0 (G.heap[Kb]?=some (.cells #[I L 0,I L 0,I L 0] 29 (0,0))):=⟨by rw [hq_];exact pP_ Ma.out⟩;have d:Aside0 (G.heap[Ka]?=some (.cells #[I L (wrap64 (Oa+((rd_T44 l0 a).f2.f0))),I L (wrap64 (Ua+((rd_T44 l0 a).f2.f1))),I L Xa] 29 (0,0))):=⟨by rw [hq_];exact pP_ Ja.out⟩;have g:Aside0 (Below w.heap.size w G):=⟨by rw [hq_];exact pB_ HB.out⟩;(try clear Ma);(try clear Ja);(try clear HB);(try rw [←hq_]);clear hq_;have Ma:=c;have Ja:=d;have HB:=g;clear c d g
     have n_:=an_ (blk_drew Ma.out)<|an_ (blk_drew Ja.out)<|D (below_drew1 HB.out)
     clear Ma Ja HB;obtain ⟨Ma,Ja,HB⟩:=n_;have ac:0≤(a:Int):=od_ Z68;have ad:a < (l0.length:Int):=od_ Z68;obtain ⟨aR,aS,aT,aU,J,M,O,P,T,U,ao,ap⟩:=at_T44 W.out a ac ad;have aV:=U;have aW:=T;have aX:=P;have aY:=O;have aZ:=M;have a0:=J;obtain rfl:b=aR:=(by injection aU);replace J:=rc_ HB.out J;replace M:=rc_ HB.out M;replace O:=rc_ HB.out O;replace P:=rc_ HB.out P;replace T:=rc_ HB.out T;replace U:=rc_ HB.out U;have a1:=D ap;have bh:=D ao;clear ap ao;replace ac:=eq_true ac;replace ad:=eq_true ad;refine start_ (n:=11) (S:=fun w'=>w'.cell? ⟨Ka,0,none⟩=some (I L (wrap64 (Oa+((rd_T44 l0 a).f2.f0))))∧w'.cell? ⟨Ka,1,none⟩=some (I L (wrap64 (Ua+((rd_T44 l0 a).f2.f1))))∧w'.cell? ⟨Ka,2,none⟩=some (I L Xa)∧w'.cell? (b.add ((a).toNat * 6))=some (I L ((rd_T44 l0 a).f0))∧w'.cell? ⟨(b.add ((a).toNat * 6)).block,(b.add ((a).toNat * 6)).off+1,none⟩=some (I L ((rd_T44 l0 a).f1))∧w'.cell? ⟨(b.add ((a).toNat * 6)).block,(b.add ((a).toNat * 6)).off+2,none⟩=some (I L ((rd_T44 l0 a).f2.f0))∧w'.cell? ⟨(b.add ((a).toNat * 6)).block,(b.add ((a).toNat * 6)).off+3,none⟩=some (I L ((rd_T44 l0 a).f2.f1))∧w'.cell? ⟨(b.add ((a).toNat * 6)).block,(b.add ((a).toNat * 6)).off+4,none⟩=some (I L ((rd_T44 l0 a).f2.f2))∧w'.cell? ⟨(b.add ((a).toNat * 6)).block,(b.add ((a).toNat * 6)).off+5,none⟩=some (Y aS ((rd_T44 l0 a).f3).length aT)) (ds:=[10]) (bz 11 0) (by kernel_rfl) rfl (by kernel_rfl) (bk3_ Ja.out (re6_ HB.out a0 aZ aY aX aW aV)) (fun hHeld=>?_);refine with_tabW spec_l19Sum.tab7 spec_l19Sum.bits7 (fun HT_ HW_=>?_);generalize G.drew=a2 at Ma Ja HB a1 J M O P T U hHeld ⊢;refine pb_ 0 ?_;refine pb_ 2 ?_;refine pb_ 3 ?_;refine pb_ 4 ?_;refine pb_ 5 ?_;refine pb_ 6 ?_;refine tb_ 1 rfl rfl hHeld Z63 ?_;refine tb_ 7 rfl rfl hHeld Z63 ?_;refine pb_ 8 ?_;refine pb_ 9 ?_;refine last_ (i:=10) (N:=none) (bz 11 2047) rfl rfl (one_of HT_.out (by kernel_rfl)) (by decide) (fun K hK=>?_);have bi:a2.cell? ⟨Ka,2,none⟩=some (I L Xa):=(bc_ Ja.out 2)
     have bj:=blk_frozen Ja.out 2;have bk:=Jb.out;have bl:=Mb.out;refine skip_ (w1:=?_) (by rfl) rfl ?_ ?_;rotate_left
     ·go_simp
      rfl
     refine hK.out _ _ ?_;clear hK K;refine done_ (done_of HT_.out (by kernel_rfl)) ?_
     try go_wp2
     go_roundg k1
     case measure=>have:=ai.out;omega
     case rel=>exact ⟨(wrap64 (a+1)),(wrap64 (Oa+((rd_T44 l0 a).f2.f0))),(wrap64 (Ua+((rd_T44 l0 a).f2.f1))),(wrap64 (Xa+((rd_T44 l0 a).f2.f2))),Z69,H',⟨by have:=ai.out;omega⟩,⟨pP_ Ma.out⟩,⟨pP_ Ja.out⟩,⟨pB_ HB.out⟩⟩
    ·rw [if_neg c7] at H
     exact absurd H (by simp)
   ·rw [if_neg c6] at H
    have au:decide (a < (l0.length:Int))=false:=decide_eq_false c6;clear c6;simp only [Option.some.injEq,Prod.mk.injEq] at H;obtain ⟨rfl,rfl,rfl⟩:=H;(try have:=Mb.out);(try have:=Jb.out);have Md:=cells3 Ja.out;have Me:=cells3 Ma.out
    go_wp2
    refine bodyPost_ret (results_cell_row rfl _ _ Kb 29 #[I L Oa,I L Ua,I L Xa] (0,0) _ rfl (by exact pP_ Ma.out) Try.underlying29 rfl (by kernel_rfl)) rfl ?_;exact ⟨er_,pB_ HB.out⟩
def spec_l19Mine.l0:Nat→List (S44)→Int→Int→List (S44)→Int→Option ((List (S44)))
 | 0,_,_,_,_,_=>none
 | k+1,b,d,e,c,a=>if a < e then (if 0≤a then (if a < (b.length:Int) then (if ((rd_T44 b a).f0)=d then (if c.length < 2199023255552 then (spec_l19Mine.l0 k b d e (c ++ [(⟨(rd_T44 b a).f0,(rd_T44 b a).f1,(⟨(rd_T44 b a).f2.f0,(rd_T44 b a).f2.f1,(rd_T44 b a).f2.f2⟩:S29),(rd_T44 b a).f3⟩:S44)]) (wrap64 (a+1))) else (none)) else (spec_l19Mine.l0 k b d e c (wrap64 (a+1)))) else (none)) else (none)) else (some c)
def spec_l19Mine.f (k:Nat) (l0:List (S44)) (a b c:Int):Option ((List (S44))):=spec_l19Mine.l0 k l0 a c (([]:List (S44))) b
theorem spec_l19Mine.calls (k:Nat) (c:Nat→Prop) (p:Option Addr) (q:Nat) (l0:List (S44)) (d m g:Int) (r:List (S44)) (w:World) (ac:Kd.V k44 44 w w.heap.size (fun k_=>c k_) (Y p l0.length q) l0) (h:spec_l19Mine.f k l0 d m g=some r) :
  Calls Try.prog 29 #[Y p l0.length q,I L d,I L m,I L g] w fun e w'=>∃ E:Value,e=.returned (E)∧Kd.N k44 44 w' w.heap.size (fun k_=>(c k_∨w.heap.size≤k_)) E r∧Below w.heap.size w w':=by
 have hu44:=Try.underlying44
 have s:=D (show Kd.V k44 44 w w.heap.size (fun k_=>(c k_∨w.heap.size≤k_)) (Y p l0.length q) l0 from Kd.V_mono ac (fun k_ hk=>.inl hk))
 have HB:=D (Below.refl w.heap.size w)
 have H:(spec_l19Mine.l0 k l0 d g (([]:List (S44))) m)=some r:=h
 clear h
 obtain ⟨G,n⟩:∃ y_:List (S44),y_=(([]:List (S44))):=⟨_,rfl⟩
 replace H:(spec_l19Mine.l0 k l0 d g G m)=some r:=by first|(rw [n];with_reducible exact H)|(have H2_:=(Option.bind_some _ _).symm.trans H;rw [n];with_reducible exact H2_)|(have H2_:=(Option.bind_some _ _).symm.trans H;with_reducible exact H2_)|with_reducible exact H|(rw [n];exact H)|exact H
 have J:=D n
 clear n
 have H':=D H
 clear H
 go_enter Try.func29,Try.ntmps29
 go_wp2_with (first|((with_reducible refine gate_dst (N:=11) rfl ?_);refine Kd.N_lit k44 _ 44 ?hg (N':=11) ?hd (xs:=([]:List (S44))) (inner:=[]) (ok:=(fun k_=>(c k_∨w.heap.size≤k_))) (okp:=(fun k_=>(c k_∨w.heap.size≤k_))) ?hr ?hp (fun _ hk=>hk) ((show ∀ k_,w.heap.size≤k_→(fun k_=>(c k_∨w.heap.size≤k_)) k_ from fun k_ hk=>(.inr (Nat.le_trans (below_size (pB_ HB.out)) hk))) _ (Nat.le_refl _)) (Below.refl _ _) (Nat.le_refl _) (by simp) ?_;(case hd=>rfl);(case hg=>rfl);(case hr=>first|(go_simp;done)|(go_simp;rfl));(case hp=>exact (Reps.none _ _));intro aq w5 l hb hg_ hnew_;clear hg_ hnew_;(first|rw [← J.out] at l|(simp only [Int.reduceToNat] at l;rw [← J.out] at l));have n_:=an_ (Kd.V_elder' (pV_ s.out) (Kd.N_base l) hb)<|an_ (Kd.N_lower l (below_size (pB_ HB.out)))<|D (below_step (pB_ HB.out) hb);clear s HB;obtain ⟨s,ad,HB⟩:=n_;clear hb l))
 go_loopg [9,10] k (fun kq K ae w'=>∃ (i:List (S44)) (a:Int),ae=I L a∧Aside0 (spec_l19Mine.l0 kq l0 d g i a=some r)∧Aside0 (kq≤k)∧Aside0 (Kd.V k44 44 w' w.heap.size (fun k_=>(c k_∨w.heap.size≤k_)∧some k_≠(K:Value).ownBlock) (Y p l0.length q) l0)∧Aside0 (Kd.N k44 44 w' w.heap.size (fun k_=>(c k_∨w.heap.size≤k_)) K i)∧Aside0 (Below w.heap.size w w'))
 case atStart=>exact ⟨(G),(m),Z69,H',⟨Nat.le_refl _⟩,⟨pV_ s.out⟩,⟨pN_ ad.out⟩,⟨pB_ HB.out⟩⟩
 case round =>
  clear H'
  (try clear c2);(try clear p2)
  obtain ⟨i,a,rfl,HA,t,HO_0,HO_9,HB⟩:=hrel
  cases gk with
  | zero=>exact absurd HA.out (by simp [spec_l19Mine.l0])
  | succ A =>
   have H:=HA.out;clear HA;simp only [spec_l19Mine.l0] at H
   by_cases c7:a < g
   ·rw [if_pos c7] at H
    have af:decide (a < g)=true:=decide_eq_true c7;clear c7
    by_cases c8:0≤a
    ·rw [if_pos c8] at H
     have av:decide (0≤a)=true:=decide_eq_true c8;clear c8
     by_cases c9:a < (l0.length:Int)
     ·rw [if_pos c9] at H
      have aw:decide (a < (l0.length:Int))=true:=decide_eq_true c9;clear c9;have M:=D H;clear H;have u:0≤(a:Int):=od_ Z68;have v:a < (l0.length:Int):=od_ Z68;obtain ⟨ag,ah,ai,aj,ax,ay,az,aA,aC,O,P,T⟩:=at_T44 (Kd.V_reads' HO_0.out).2.2 a u v;cases aj;obtain ⟨ce860,hce860,hMe860,U⟩:=Kd.V_get HO_0.out z44 a u (by first|exact v|exact od_ Z68|(have e_:=(Kd.V_reads' HO_0.out).1;omega));obtain ⟨ua860_5,uc860_5,rfl,ul860_5,ge860_5⟩:=k44_openF hMe860;have hv860_5:=U 5 _ rfl;rw [add_field _ _ 5 (by omega)] at hv860_5;replace hv860_5:=Option.some.inj (hv860_5.symm.trans O)
      injection hv860_5 with hva_ hvn_ hvc_
      rw [hva_] at ge860_5;rw [hvc_] at ul860_5;have HL860_5:=D (show Kd.V (Kd.int .i64) 3 _ w.heap.size _ _ ((rd_T44 l0 a).f3) from Kd.V_mk ul860_5 ge860_5);clear hva_ hvn_ hvc_ ge860_5 ul860_5;clear U hce860;have aD:=D T;have aE:=D P;clear T P;replace u:=eq_true u;replace v:=eq_true v
      go_upto_if 24 with (fail)
      have H:=M.out;clear M
      by_cases j:((rd_T44 l0 a).f0)=d
      ·rw [if_pos j] at H
       have B:(((rd_T44 l0 a).f0) == d)=true:=beq_iff_eq.mpr j;have ak:(((rd_T44 l0 a).f0) != d)=false:=bne_eq_false_iff_eq.mpr j;clear j;refine rw_ B ?_
       by_cases x:i.length < 2199023255552
       ·rw [if_pos x] at H
        have al:=D x;clear x;obtain ⟨W,o⟩:∃ y_:List (S44),y_=(i ++ [(⟨(rd_T44 l0 a).f0,(rd_T44 l0 a).f1,(⟨(rd_T44 l0 a).f2.f0,(rd_T44 l0 a).f2.f1,(rd_T44 l0 a).f2.f2⟩:S29),(rd_T44 l0 a).f3⟩:S44)]):=⟨_,rfl⟩
        replace H:(spec_l19Mine.l0 A l0 d g W (wrap64 (a+1)))=some r:=by first|(rw [o];with_reducible exact H)|(have H2_:=(Option.bind_some _ _).symm.trans H;rw [o];with_reducible exact H2_)|(have H2_:=(Option.bind_some _ _).symm.trans H;with_reducible exact H2_)|with_reducible exact H|(rw [o];exact H)|exact H
        have am:=D o;clear o;have H':=D H;clear H;have y:0≤(a:Int):=od_ Z68;have z:a < (l0.length:Int):=od_ Z68;obtain ⟨an,aG,aH,ao,aI,aJ,aK,aM,aN,X,Z,aa⟩:=at_T44 (Kd.V_reads' HO_0.out).2.2 a y z;obtain rfl:ag=an:=(by injection ao);obtain ⟨ce861,hce861,hMe861,ab⟩:=Kd.V_get HO_0.out z44 a y (by first|exact z|exact od_ Z68|(have e_:=(Kd.V_reads' HO_0.out).1;omega));obtain ⟨ua861_5,uc861_5,rfl,ul861_5,ge861_5⟩:=k44_openF hMe861;have hv861_5:=ab 5 _ rfl;rw [add_field _ _ 5 (by omega)] at hv861_5;replace hv861_5:=Option.some.inj (hv861_5.symm.trans X)
        injection hv861_5 with hva_ hvn_ hvc_
        rw [hva_] at ge861_5;rw [hvc_] at ul861_5;have HL861_5:=D (show Kd.V (Kd.int .i64) 3 _ w.heap.size _ _ ((rd_T44 l0 a).f3) from Kd.V_mk ul861_5 ge861_5);clear hva_ hvn_ hvc_ ge861_5 ul861_5;clear ab hce861;have aQ:=D aa;have aR:=D Z;clear aa Z;replace y:=eq_true y;replace z:=eq_true z;have ea_:=Option.some.inj (O.symm.trans X)
        injection ea_ with ea_ en_ ec_
        subst ea_;subst ec_;clear en_
        go_wp2_with (first|((with_reducible refine gate_builtin (b:=.append) (xs:=#[.tmp 25,.tmp 30]) rfl ?_);at_builtin;refine Kd.N_append k44 (w0:=w) w.heap.size rfl (.tmp 25) (.tmp 30) 24 44 (.agg #[(I L 0),(I L 0),(I L 0),(I L 0),(I L 0),(Y none 0 0)]) 64 rfl Try.underlying24 info44 rfl (by decide) (by omega) u9 i (⟨(rd_T44 l0 a).f0,(rd_T44 l0 a).f1,(⟨(rd_T44 l0 a).f2.f0,(rd_T44 l0 a).f2.f1,(rd_T44 l0 a).f2.f2⟩:S29),(rd_T44 l0 a).f3⟩:S44) [I L ((rd_T44 l0 a).f0),I L ((rd_T44 l0 a).f1),I L ((rd_T44 l0 a).f2.f0),I L ((rd_T44 l0 a).f2.f1),I L ((rd_T44 l0 a).f2.f2),Y ah ((rd_T44 l0 a).f3).length ai] (fun k_=>(c k_∨w.heap.size≤k_)) (fun k_=>((fun k_=>(c k_∨w.heap.size≤k_))) k_∧some k_≠(u9:Value).ownBlock) rfl rfl ?aP (fun _ hk=>hk) ?aF ?aO ?aB ?aS ?aL ?_;(case aP=>exact (k44_mkF _ _ (⟨(rd_T44 l0 a).f0,(rd_T44 l0 a).f1,(⟨(rd_T44 l0 a).f2.f0,(rd_T44 l0 a).f2.f1,(rd_T44 l0 a).f2.f2⟩:S29),(rd_T44 l0 a).f3⟩:S44) (Kd.V_reads' (Kd.V_mono (ok':=(fun k_=>((fun k_=>(c k_∨w.heap.size≤k_))) k_∧some k_≠(u9:Value).ownBlock)) (HL861_5.out) (fun k_ hk=>⟨hk.1,hk.2⟩))).2.1 (by (with_reducible repeat (first|apply Kd.F_alloc|apply Kd.F_drewN|apply Kd.F_drew));exact Kd.V_F (Kd.V_mono (ok':=(fun k_=>((fun k_=>(c k_∨w.heap.size≤k_))) k_∧some k_≠(u9:Value).ownBlock)) (HL861_5.out) (fun k_ hk=>⟨hk.1,hk.2⟩)))));(case aB=>exact (pB_ HB.out));(case aF=>exact (fun k_ hk=>(.inr (Nat.le_trans (below_size (pB_ HB.out)) hk))));(case aO=>exact (pN_ HO_9.out));(case aS=>exact (below_size (pB_ HB.out)));(case aL=>have:=al.out;omega);intro aT aU ho hb hg hat;rw [← am.out] at ho;have n_:=an_ (Kd.V_afterv (ok:=(fun k_=>(c k_∨w.heap.size≤k_))) (pV_ HO_0.out) hg hat)<|an_ (Kd.V_afterv (ok:=(fun k_=>(c k_∨w.heap.size≤k_))) (pV_ HL860_5.out) hg hat)<|an_ (Kd.V_afterv (ok:=(fun k_=>(c k_∨w.heap.size≤k_))) (pV_ HL861_5.out) hg hat)<|an_ (hb)<|D (ho);clear HO_0 HL860_5 HL861_5 HB HO_9;obtain ⟨HO_0,HL860_5,HL861_5,HB,ap⟩:=n_;clear ho hb hg hat))
        go_roundg A
        case measure=>have:=t.out;omega
        case rel=>exact ⟨(W),(wrap64 (a+1)),Z69,H',⟨by have:=t.out;omega⟩,⟨pV_ HO_0.out⟩,⟨pN_ ap.out⟩,⟨pB_ HB.out⟩⟩
       ·rw [if_neg x] at H
        exact absurd H (by simp)
      ·rw [if_neg j] at H
       have B:(((rd_T44 l0 a).f0) == d)=false:=beq_eq_false_iff_ne.mpr j;have ak:(((rd_T44 l0 a).f0) != d)=true:=bne_iff_ne.mpr j;refine rw_ B ?_;have H':=D H;clear H
       go_wp2
       go_roundg A
       case measure=>have:=t.out;omega
       case rel=>exact ⟨(i),(wrap64 (a+1)),Z69,H',⟨by have:=t.out;omega⟩,⟨pV_ HO_0.out⟩,⟨pN_ HO_9.out⟩,⟨pB_ HB.out⟩⟩
     ·rw [if_neg c9] at H
      exact absurd H (by simp)
    ·rw [if_neg c8] at H
     exact absurd H (by simp)
   ·rw [if_neg c7] at H
    have af:decide (a < g)=false:=decide_eq_false c7;clear c7;obtain rfl:=Option.some.inj H
    go_wp2
    go_ret;exact ⟨_,er_,by (with_reducible repeat (first|apply Kd.N_alloc|apply Kd.N_drewN|apply Kd.N_drew));exact HO_9.out,pB_ HB.out⟩
def spec_Taken.f (k:Nat) (l0:List (S44)) (d b c:Int):Option (Int×Int×Int):=(spec_l19Span.f k l0 b c).bind fun e=>(if e=true then ((spec_l19Mine.f k l0 d b c).bind fun g=>((spec_l19Sum.f k g).bind fun a=>(some (a.1,a.2.1,a.2.2)))) else (some (0,0,0)))
theorem spec_Taken.calls (k:Nat) (l:Option Addr) (m:Nat) (l0:List (S44)) (g b c o p q:Int) (w:World) (s:Kd.C k44 w l l0.length l0) (u:l0.length≤m) (h:spec_Taken.f k l0 g b c=some (o,p,q)) :
  Calls Try.prog 11 #[Y l l0.length m,I L g,I L b,I L c] w fun e w'=>e=.returned (.agg #[I L o,I L p,I L q])∧Below w.heap.size w w':=by
 have hu29:=Try.underlying29
 have v:=D s
 have x:=D u
 clear s u
 have HB:=D (Below.refl w.heap.size w)
 have H:((spec_l19Span.f k l0 b c).bind fun n=>(if n=true then ((spec_l19Mine.f k l0 g b c).bind fun i=>((spec_l19Sum.f k i).bind fun r=>(some (r.1,r.2.1,r.2.2)))) else (some (0,0,0))))=some (o,p,q):=h
 clear h
 obtain ⟨n,y,H⟩:=bs_.mp H
 (try dsimp only at H)
 have M:=D y
 clear y
 have z:=D H
 clear H
 go_enter Try.func11,Try.ntmps11
 go_upto_if 13 with (first|((with_reducible refine gate_dst (N:=8) rfl ?_);refine bx_ (N:=8) (cs:=#[I L 0,I L 0,I L 0]) (t:=29) ?_;intro j hg W hbox hb;have n_:=an_ (below_step (pB_ HB.out) hb)<|an_ (hbox)<|an_ (bg_ hg (pB_ HB.out):w.heap.size≤j)<|D (bg_ hg (pB_ HB.out):w.heap.size≤j);clear HB;obtain ⟨HB,a,O,X⟩:=n_;clear hb hbox hg)|((with_reducible refine gate_callee (f:=27) rfl ?_);refine goesL_ (some 12) rfl rfl Try.func27 (by kernel_rfl) rfl #[Y l l0.length m,I L b,I L c] rfl Z20 ?_;(with_reducible refine (spec_l19Span.calls k _ _ l0 b c n _ ?side1 ?side2 M.out).mono ?_);(case side1=>exact pC_ (Kd.C_below v.out HB.out));(case side2=>exact x.out);rintro e Z ⟨rfl,hb⟩;refine ⟨_,rfl,?_⟩;have n_:=an_ (blk_below (pk_ a.out) hb)<|D (below_step (pB_ HB.out) hb);clear a HB;obtain ⟨a,HB⟩:=n_;(try clear hb)))
 have H:=z.out
 clear z
 by_cases c9:n=true
 ·subst c9
  rw [if_pos rfl] at H;obtain ⟨i,A,H⟩:=bs_.mp H;(try dsimp only at H);have P:=D A;clear A;obtain ⟨⟨B,E,G⟩,J,H⟩:=bs_.mp H;(try dsimp only at H);have T:=D J;clear J;simp only [Option.some.injEq,Prod.mk.injEq] at H;obtain ⟨rfl,rfl,rfl⟩:=H
  go_wp2_with (first|((with_reducible refine gate_callee (f:=29) rfl ?_);refine goesL_ (some 19) rfl rfl Try.func29 (by kernel_rfl) rfl #[Y l l0.length m,I L g,I L b,I L c] rfl Z20 ?_;(with_reducible refine (spec_l19Mine.calls k (fun k_=>k_ < w.heap.size) _ _ l0 g b c i _ ?side1 P.out).mono ?_);(case side1=>exact Kd.V_mk x.out (Kd.F_below (Kd.C_F k44_heap v.out) (pB_ HB.out)));rintro e aa ⟨ab,rfl,K,hb⟩;refine ⟨_,rfl,?_⟩;have n_:=an_ (Kd.N_lower (Kd.N_mono (ok':=fun k_=>k_≠j) K (fun k_ hk_=>Or.elim hk_ (fun hs_=>fun e_=>Nat.not_le.2 hs_ (by rw [e_];exact O.out)) (fun hn_=>(Kd.freshB (pk_ a.out) k_ hn_)))) (below_size (pB_ HB.out)))<|an_ (blk_below (pk_ a.out) hb)<|D (below_step (pB_ HB.out) hb);clear a HB;obtain ⟨d,a,HB⟩:=n_;(try clear hb);(try clear K);obtain ⟨Ao13,co13,U⟩:=Kd.N_slice d.out;subst U)|((with_reducible refine gate_callee (f:=28) rfl ?_);refine goesL_ (some 20) rfl rfl Try.func28 (by kernel_rfl) rfl #[Y Ao13 i.length co13] rfl Z20 ?_;(with_reducible refine (spec_l19Sum.calls k _ _ i B E G _ ?side1 ?side2 T.out).mono ?_);(case side1=>exact pC_ ((Kd.N_reads' d.out).2.2));(case side2=>exact (Kd.N_reads' d.out).2.1);rintro e ac ⟨rfl,hb⟩;refine ⟨_,rfl,?_⟩;have n_:=an_ (Kd.N_below (pN_ d.out) hb)<|an_ (blk_below (pk_ a.out) hb)<|D (below_step (pB_ HB.out) hb);clear d a HB;obtain ⟨d,a,HB⟩:=n_;(try clear hb);have ad:=cells3 a.out))
  refine bodyPost_ret (results_cell_row rfl _ _ j 29 #[I L B,I L E,I L G] (0,0) _ rfl (by exact pP_ a.out) Try.underlying29 rfl (by kernel_rfl)) rfl ?_;exact ⟨er_,pB_ HB.out⟩
 ·replace c9:=Bool.eq_false_iff.mpr c9
  subst c9;rw [if_neg (show ¬ (false=true) by decide)] at H;simp only [Option.some.injEq,Prod.mk.injEq] at H;obtain ⟨rfl,rfl,rfl⟩:=H;have ae:=cells3 a.out
  go_wp2
  refine bodyPost_ret (results_cell_row rfl _ _ j 29 #[I L 0,I L 0,I L 0] (0,0) _ rfl (by exact pP_ a.out) Try.underlying29 rfl (by kernel_rfl)) rfl ?_;exact ⟨er_,pB_ HB.out⟩
end Go.Proofs.Ytpkdkhhknmlpjaa.PFnTakenAdds
