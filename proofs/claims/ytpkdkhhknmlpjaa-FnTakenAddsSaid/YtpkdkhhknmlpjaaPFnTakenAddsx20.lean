-- by a program of this session's, over the kit's words
import Derived.Test.YtpkdkhhknmlpjaaPZFnTakenAdds
import Derived.Test.YtpkdkhhknmlpjaaPFnTakenAddsx0
import Derived.Test.YtpkdkhhknmlpjaaPFnTakenAddsx2
import Derived.Test.YtpkdkhhknmlpjaaPFnTakenAddsx8
import Derived.Test.YtpkdkhhknmlpjaaPFnTakenAddsx19
namespace Go.Proofs.Ytpkdkhhknmlpjaa.PFnTakenAdds
open Go.RowKit Go.Proofs.YtpkdkhhknmlpjaaW.PrintWords Go.Proofs.YtpkdkhhknmlpjaaW.PrintLast Go.Proofs.YtpkdkhhknmlpjaaW.PrintMore Go.Proofs.YtpkdkhhknmlpjaaV Go.Proofs.Ytpkdkhhknmlpjaa.ZFnTakenAdds
open Go.Value renaming int → I, slice → Y
open Go.IntKind renaming i64 → L
open Aside0 renaming mk → D
open Option renaming bind_eq_some_iff → bs_
attribute [local go_sem] max2_int min2_int max_two min_two max_three min_three max_four min_four
set_option linter.unusedVariables false
set_option linter.unusedSimpArgs false
set_option maxHeartbeats 8000000
set_option maxRecDepth 100000
mutual
def spec_l19Mains.l0:Nat→List (S44)→List Int→Int→Option (List Int)
 | 0,_,_,_=>none
 | k+1,a,c,b=>if b < 3 then (spec_l19Mains.j1 k a c b (decide ((a.length:Int) > 0))) else (spec_l19Mains.j1 k a c b false)
def spec_l19Mains.j1:Nat→List (S44)→List Int→Int→Bool→Option (List Int)
 | 0,_,_,_,_=>none
 | k+1,a,c,b,h=>if h=true then (spec_l19Mains.l1 k a c b true 0) else (some c)
def spec_l19Mains.l1:Nat→List (S44)→List Int→Int→Bool→Int→Option (List Int)
 | 0,_,_,_,_,_=>none
 | k+1,a,c,b,e,d=>if d < (a.length:Int) then (if e=true then (if 0≤d then ((spec_l13List.f ((rd_T44 a d).f2.f0) ((rd_T44 a d).f2.f1) ((rd_T44 a d).f2.f2)).bind fun g=>(if 0≤b then (if b < (g.length:Int) then ((spec_VecTop.f ((rd_T44 a d).f2.f0) ((rd_T44 a d).f2.f1) ((rd_T44 a d).f2.f2)).bind fun i=>(spec_l19Mains.l1 k a c b ((rd g b) == i) (wrap64 (d+1)))) else (none)) else (none))) else (none)) else (spec_l19Mains.l1 k a c b false (wrap64 (d+1)))) else (if e=true then (if c.length < 17592186044416 then (spec_l19Mains.l0 k a (c ++ [b]) (wrap64 (b+1))) else (none)) else (spec_l19Mains.l0 k a c (wrap64 (b+1))))
end
def spec_l19Mains.f (k:Nat) (l0:List (S44)):Option (List Int):=spec_l19Mains.l0 k l0 (([]:List Int)) 0
def spec_l19Mains.T9:Bool×List (List Nat×List Nat):=(true,[([],[]),([0],[0]),([1],[1]),([1],[1]),([2,3,1],[1,2,3]),([4,1],[1,4]),([5,1],[1,5]),([6,1,1],[1,6]),([1],[1]),([7,8,1],[1,7,8]),([9,1],[1,9]),([1],[1]),([1],[1]),([11,12,1],[1,11,12]),([13,1],[1,13]),([14,1],[1,14]),([15,7,1],[1,15]),([10,16,1],[1,10,16]),([1,17],[1,17]),([18,16,0,1,2,3,4,5,6,7,8,9,10,11,12,13,14,15,16,17,18],[0,18])])
def spec_l19Mains.B9:List Nat:=[0,1,3,3,15,31,63,127,3,511,1023,3,3,6147,14339,30723,63743,131071,262143,524287]
theorem spec_l19Mains.tab9:rtab .any (opsOf Try.f30 9)=spec_l19Mains.T9:=by kernel_rfl
theorem spec_l19Mains.bits9:waitsOk spec_l19Mains.T9.2 spec_l19Mains.B9=true:=by kernel_rfl
theorem spec_l19Mains.calls (k:Nat) (A0:Option Addr) (c0:Nat) (l0:List (S44)) (r:List Int) (w:World) (ay:Kd.C k44 w A0 l0.length l0) (az:l0.length≤c0) (h:spec_l19Mains.f k l0=some r) :
  Calls Try.prog 30 #[Y A0 l0.length c0] w fun e w'=>∃ aA:Value,e=.returned (aA)∧Kd.R (Kd.int .i64) 3 w' w.heap.size (fun _=>True) aA r∧Below w.heap.size w w':=by
 have hu29:=Try.underlying29
 have aC:=D ay
 have bc:=D az
 clear ay az
 have HB:=D (Below.refl w.heap.size w)
 have H:(spec_l19Mains.l0 k l0 (([]:List Int)) 0)=some r:=h
 clear h
 obtain ⟨aD,m⟩:∃ y_:List Int,y_=(([]:List Int)):=⟨_,rfl⟩
 replace H:(spec_l19Mains.l0 k l0 aD 0)=some r:=by first|(rw [m];with_reducible exact H)|(have H2_:=(Option.bind_some _ _).symm.trans H;rw [m];with_reducible exact H2_)|(have H2_:=(Option.bind_some _ _).symm.trans H;with_reducible exact H2_)|with_reducible exact H|(rw [m];exact H)|exact H
 have aE:=D m
 clear m
 have H':=D H
 clear H
 go_enter Try.func30,Try.ntmps30
 go_wp2_with (first|((with_reducible refine gate_dst (N:=7) rfl ?_);(try (refine gate_guard (by rfl) ?_;dsimp only));refine Kd.R_lit (Kd.int .i64) _ 3 ?hg (N:=7) ?hd (xs:=([]:List Int)) (inner:=[]) (ok:=fun _=>True) (okp:=fun _=>True) ?hr ?hp (fun _ hk=>hk) trivial (Below.refl _ _) (Nat.le_refl _) (by simp) ?_;(case hd=>rfl);(case hg=>rfl);(case hr=>first|(go_simp;done)|(go_simp;rfl));(case hp=>exact (Reps.none _ _));intro Ub w2 o hb hg_ hnew_;clear hg_ hnew_;(first|rw [← aE.out] at o|(simp only [Int.reduceToNat] at o;rw [← aE.out] at o));have n_:=an_ (Kd.R_lower o (below_size (pB_ HB.out)))<|D (below_step (pB_ HB.out) hb);clear HB;obtain ⟨Xa,HB⟩:=n_;clear hb o))
 go_loopg [3,4] k (fun kq v3 v4 w'=>∃ (g:List Int) (d:Int),v4=I L d∧Aside0 (spec_l19Mains.l0 kq l0 g d=some r)∧Aside0 (kq≤k)∧Aside0 (Kd.R (Kd.int .i64) 3 w' w.heap.size (fun _=>True) v3 g)∧Aside0 (Below w.heap.size w w'))
 case atStart=>exact ⟨(aD),(0),Z69,H',⟨Nat.le_refl _⟩,⟨pR_ Xa.out⟩,⟨pB_ HB.out⟩⟩
 case round =>
  clear H'
  (try clear x);(try clear c3)
  obtain ⟨g,d,rfl,HA,i,Ja,HB⟩:=hrel
  cases gk with
  | zero=>exact absurd HA.out (by simp [spec_l19Mains.l0])
  | succ k1 =>
   have H:=HA.out;clear HA;simp only [spec_l19Mains.l0] at H;have ab:=D H;clear H
   go_upto_region 3 with (fail)
   go_cut [14] (fun aW wc=>∃ (kq:Nat) (Oa:Bool),aW=.bool Oa∧Aside0 (spec_l19Mains.j1 kq l0 g d Oa=some r)∧Aside0 (kq≤k1)∧Aside0 (Kd.R (Kd.int .i64) 3 wc w.heap.size (fun _=>True) u3 g)∧Aside0 (Below w.heap.size w wc))
   case first =>
    have H:=ab.out;clear ab
    by_cases c5:d < 3
    ·rw [if_pos c5] at H
     have p:decide (d < 3)=true:=decide_eq_true c5;clear c5;refine rw_ p ?_;have H':=D H;clear H
     go_wp2
     go_meet
     case rel=>exact ⟨_,(decide ((l0.length:Int) > 0)),Z69,H',⟨by have:=i.out;first | omega | exact Nat.le_refl _⟩,⟨pR_ Ja.out⟩,⟨pB_ HB.out⟩⟩
    ·rw [if_neg c5] at H
     have p:decide (d < 3)=false:=decide_eq_false c5;clear c5;refine rw_ p ?_;have H':=D H;clear H
     go_wp2
     go_meet
     case rel=>exact ⟨_,(false),Z69,H',⟨by have:=i.out;first | omega | exact Nat.le_refl _⟩,⟨pR_ Ja.out⟩,⟨pB_ HB.out⟩⟩
   case rest =>
    clear ab
    (try clear x);(try clear c3);(try clear c5);(try clear p);(try clear x)
    obtain ⟨kq,Oa,rfl,HA,j,Ja,HB⟩:=hcut
    cases kq with
    | zero=>exact absurd HA.out (by simp [spec_l19Mains.j1])
    | succ kj3 =>
     have H:=HA.out;clear HA;simp only [spec_l19Mains.j1] at H
     by_cases c6:Oa=true
     ·subst c6
      rw [if_pos rfl] at H;have H':=D H;clear H
      go_wp2
      go_loopg [5,6] kj3 (fun kq v5 v6 w'=>∃ (q:Bool) (a:Int),v5=.bool q∧v6=I L a∧Aside0 (spec_l19Mains.l1 kq l0 g d q a=some r)∧Aside0 (kq≤kj3)∧Aside0 (Kd.R (Kd.int .i64) 3 w' w.heap.size (fun _=>True) u3 g)∧Aside0 (Below w.heap.size w w'))
      case atStart=>exact ⟨(true),(0),Z69,Z69,H',⟨Nat.le_refl _⟩,⟨pR_ Ja.out⟩,⟨pB_ HB.out⟩⟩
      case round =>
       clear H'
       (try clear x);(try clear c3);(try clear c5);(try clear p);(try clear c6);(try clear x)
       obtain ⟨q,a,rfl,rfl,HA,l,Ja,HB⟩:=hrel
       cases gk with
       | zero=>exact absurd HA.out (by simp [spec_l19Mains.l1])
       | succ s =>
        have H:=HA.out;clear HA;simp only [spec_l19Mains.l1] at H
        by_cases c7:a < (l0.length:Int)
        ·rw [if_pos c7] at H
         have aZ:decide (a < (l0.length:Int))=true:=decide_eq_true c7;clear c7
         by_cases c8:q=true
         ·subst c8
          rw [if_pos rfl] at H
          by_cases c9:0≤a
          ·rw [if_pos c9] at H
           have be:decide (0≤a)=true:=decide_eq_true c9;clear c9;obtain ⟨Ka,aG,H⟩:=bs_.mp H;(try dsimp only at H);have a0:=D aG;clear aG
           by_cases y:0≤d
           ·rw [if_pos y] at H
            have bf:decide (0≤d)=true:=decide_eq_true y;clear y
            by_cases z:d < (Ka.length:Int)
            ·rw [if_pos z] at H
             have bg:decide (d < (Ka.length:Int))=true:=decide_eq_true z;clear z;obtain ⟨Ua,aH,H⟩:=bs_.mp H;(try dsimp only at H);have a1:=D aH;clear aH;have H':=D H;clear H
             try go_wp2
             have n_:=an_ (Kd.R_drew Ja.out)<|D (below_drew1 HB.out)
             clear Ja HB;obtain ⟨Ja,HB⟩:=n_;have ac:0≤(a:Int):=od_ Z68;have ad:a < (l0.length:Int):=od_ Z68;obtain ⟨c,A,B,a2,E,G,J,M,O,t,aI,aJ⟩:=at_T44 aC.out a ac ad;have ae:=t;have af:=O;have ag:=M;have ah:=J;have ai:=G;have aj:=E;cases a2;replace E:=rc_ HB.out E;replace G:=rc_ HB.out G;replace J:=rc_ HB.out J;replace M:=rc_ HB.out M;replace O:=rc_ HB.out O;replace t:=rc_ HB.out t;have a3:=D aJ;have bh:=D aI;clear aJ aI;replace ac:=eq_true ac;replace ad:=eq_true ad;have ak:0≤(a:Int):=od_ Z68;have al:a < (l0.length:Int):=od_ Z68;obtain ⟨a4,bi,bj,a5,P,T,U,W,X,u,aK,aM⟩:=at_T44 aC.out a ak al;have am:=u;have an:=X;have ao:=W;have ap:=U;have aq:=T;have ar:=P;obtain rfl:c=a4:=(by injection a5);replace P:=rc_ HB.out P;replace T:=rc_ HB.out T;replace U:=rc_ HB.out U;replace W:=rc_ HB.out W;replace X:=rc_ HB.out X;replace u:=rc_ HB.out u;have a6:=D aM;have bk:=D aK;clear aM aK;replace ak:=eq_true ak;replace al:=eq_true al;have ea_:=Option.some.inj (t.symm.trans u)
             injection ea_ with ea_ en_ ec_
             subst ea_;subst ec_;clear en_;refine start_ (n:=20) (S:=fun w'=>w'.cell? (c.add ((a).toNat * 6))=some (I L ((rd_T44 l0 a).f0))∧w'.cell? ⟨(c.add ((a).toNat * 6)).block,(c.add ((a).toNat * 6)).off+1,none⟩=some (I L ((rd_T44 l0 a).f1))∧w'.cell? ⟨(c.add ((a).toNat * 6)).block,(c.add ((a).toNat * 6)).off+2,none⟩=some (I L ((rd_T44 l0 a).f2.f0))∧w'.cell? ⟨(c.add ((a).toNat * 6)).block,(c.add ((a).toNat * 6)).off+3,none⟩=some (I L ((rd_T44 l0 a).f2.f1))∧w'.cell? ⟨(c.add ((a).toNat * 6)).block,(c.add ((a).toNat * 6)).off+4,none⟩=some (I L ((rd_T44 l0 a).f2.f2))∧w'.cell? ⟨(c.add ((a).toNat * 6)).block,(c.add ((a).toNat * 6)).off+5,none⟩=some (Y A ((rd_T44 l0 a).f3).length B)∧w'.cell? (c.add ((a).toNat * 6))=some (I L ((rd_T44 l0 a).f0))∧w'.cell? ⟨(c.add ((a).toNat * 6)).block,(c.add ((a).toNat * 6)).off+1,none⟩=some (I L ((rd_T44 l0 a).f1))∧w'.cell? ⟨(c.add ((a).toNat * 6)).block,(c.add ((a).toNat * 6)).off+2,none⟩=some (I L ((rd_T44 l0 a).f2.f0))∧w'.cell? ⟨(c.add ((a).toNat * 6)).block,(c.add ((a).toNat * 6)).off+3,none⟩=some (I L ((rd_T44 l0 a).f2.f1))∧w'.cell? ⟨(c.add ((a).toNat * 6)).block,(c.add ((a).toNat * 6)).off+4,none⟩=some (I L ((rd_T44 l0 a).f2.f2))∧w'.cell? ⟨(c.add ((a).toNat * 6)).block,(c.add ((a).toNat * 6)).off+5,none⟩=some (Y A ((rd_T44 l0 a).f3).length B)∧True) (ds:=[]) (bz 20 0) (by kernel_rfl) rfl (by kernel_rfl) (rk6_ HB.out aj ai ah ag af ae (rk6_ HB.out ar aq ap ao an am trivial)) (fun hHeld=>?_);refine with_tabW spec_l19Mains.tab9 spec_l19Mains.bits9 (fun HT_ HW_=>?_);generalize wr.drew=bl at Ja HB a3 a6 E G J M O t P T U W X u hHeld ⊢;refine pb_ 0 ?_;refine pb_ 1 ?_;refine pb_ 2 ?_;refine pb_ 3 ?_;refine pb_ 4 ?_;refine pb_ 5 ?_;refine pb_ 8 ?_;refine pb_ 11 ?_;refine pb_ 12 ?_;refine pb_ 13 ?_;refine pb_ 14 ?_;refine tb_ 6 rfl rfl hHeld Z28 ?_;refine tb_ 15 rfl rfl hHeld Z28 ?_;refine oa_ 7 30 20 63999 HT_ (fun K hK=>?_)
             refine goes_ Try.func46 (by kernel_rfl) rfl #[.agg #[I L ((rd_T44 l0 a).f2.f0),I L ((rd_T44 l0 a).f2.f1),I L ((rd_T44 l0 a).f2.f2)]] (by rfl) rfl rfl Z20 ?_;with_reducible refine (spec_l13List.calls ((rd_T44 l0 a).f2.f0) ((rd_T44 l0 a).f2.f1) ((rd_T44 l0 a).f2.f2) Ka _ a0.out).mono ?_
             rintro e bm ⟨Xb,rfl,aN,hb⟩;refine ⟨_,rfl,?_⟩
             have n_:=an_ (Kd.R_elder' (pR_ Ja.out) (Kd.R_base aN) hb)<|an_ (Kd.R_lower (nw_ aN (pR_ Ja.out)) (below_size (pB_ HB.out)))<|D (below_step (pB_ HB.out) hb)
             clear Ja HB;obtain ⟨Ja,Ma,HB⟩:=n_;obtain ⟨Jc,Kc,aQ⟩:=Kd.R_slice Ma.out;(first|subst aQ|obtain ⟨rfl,rfl⟩:=sl_inj aQ);have au:0≤(d:Int):=od_ Z68;have av:d < (Ka.length:Int):=od_ Z68;obtain ⟨a7,a8,a9⟩:=Kd.at_int (Kd.R_reads' Ma.out).2.2 d au av;cases a8;replace au:=eq_true au;replace av:=eq_true av;refine hK.out _ _ (rk6_ HB.out aj ai ah ag af ae (rk6_ HB.out ar aq ap ao an am trivial)) (fun hHeld=>?_);refine more_ (S2:=fun w'=>w'.cell? (c.add ((a).toNat * 6))=some (I L ((rd_T44 l0 a).f0))∧w'.cell? ⟨(c.add ((a).toNat * 6)).block,(c.add ((a).toNat * 6)).off+1,none⟩=some (I L ((rd_T44 l0 a).f1))∧w'.cell? ⟨(c.add ((a).toNat * 6)).block,(c.add ((a).toNat * 6)).off+2,none⟩=some (I L ((rd_T44 l0 a).f2.f0))∧w'.cell? ⟨(c.add ((a).toNat * 6)).block,(c.add ((a).toNat * 6)).off+3,none⟩=some (I L ((rd_T44 l0 a).f2.f1))∧w'.cell? ⟨(c.add ((a).toNat * 6)).block,(c.add ((a).toNat * 6)).off+4,none⟩=some (I L ((rd_T44 l0 a).f2.f2))∧w'.cell? ⟨(c.add ((a).toNat * 6)).block,(c.add ((a).toNat * 6)).off+5,none⟩=some (Y A ((rd_T44 l0 a).f3).length B)∧w'.cell? (c.add ((a).toNat * 6))=some (I L ((rd_T44 l0 a).f0))∧w'.cell? ⟨(c.add ((a).toNat * 6)).block,(c.add ((a).toNat * 6)).off+1,none⟩=some (I L ((rd_T44 l0 a).f1))∧w'.cell? ⟨(c.add ((a).toNat * 6)).block,(c.add ((a).toNat * 6)).off+2,none⟩=some (I L ((rd_T44 l0 a).f2.f0))∧w'.cell? ⟨(c.add ((a).toNat * 6)).block,(c.add ((a).toNat * 6)).off+3,none⟩=some (I L ((rd_T44 l0 a).f2.f1))∧w'.cell? ⟨(c.add ((a).toNat * 6)).block,(c.add ((a).toNat * 6)).off+4,none⟩=some (I L ((rd_T44 l0 a).f2.f2))∧w'.cell? ⟨(c.add ((a).toNat * 6)).block,(c.add ((a).toNat * 6)).off+5,none⟩=some (Y A ((rd_T44 l0 a).f3).length B)∧w'.cell? (a7.add (d).toNat)=some (I L (rd Ka d))) (fun w' h=>⟨h.1,h.2.1,h.2.2.1,h.2.2.2.1,h.2.2.2.2.1,h.2.2.2.2.2.1,h.2.2.2.2.2.2.1,h.2.2.2.2.2.2.2.1,h.2.2.2.2.2.2.2.2.1,h.2.2.2.2.2.2.2.2.2.1,h.2.2.2.2.2.2.2.2.2.2.1,h.2.2.2.2.2.2.2.2.2.2.2.1,trivial⟩) ⟨hHeld.1,hHeld.2.1,hHeld.2.2.1,hHeld.2.2.2.1,hHeld.2.2.2.2.1,hHeld.2.2.2.2.2.1,hHeld.2.2.2.2.2.2.1,hHeld.2.2.2.2.2.2.2.1,hHeld.2.2.2.2.2.2.2.2.1,hHeld.2.2.2.2.2.2.2.2.2.1,hHeld.2.2.2.2.2.2.2.2.2.2.1,hHeld.2.2.2.2.2.2.2.2.2.2.2.1,a9⟩ (fun hHeld=>?_);clear hK K;refine nx_ (N:=some 30) ?_;refine pb_ 9 ?_;refine tb_ 10 rfl rfl hHeld Z28 ?_;refine oa_ 16 39 20 131071 HT_ (fun K hK=>?_);refine goes_ Try.func47 (by kernel_rfl) rfl #[.agg #[I L ((rd_T44 l0 a).f2.f0),I L ((rd_T44 l0 a).f2.f1),I L ((rd_T44 l0 a).f2.f2)]] (by rfl) rfl rfl Z20 ?_
             with_reducible refine (spec_VecTop.calls ((rd_T44 l0 a).f2.f0) ((rd_T44 l0 a).f2.f1) ((rd_T44 l0 a).f2.f2) Ua _ a1.out).mono ?_
             rintro e bn ⟨rfl,hb⟩;have HS12_:=(hb.cell (World.block_lt_of_cell? _ _ (hHeld.2.2.2.2.2.2.2.2.2.2.2.2))).trans (hHeld.2.2.2.2.2.2.2.2.2.2.2.2);refine ⟨_,rfl,?_⟩
             have n_:=an_ (Kd.R_below (pR_ Ja.out) hb)<|an_ (Kd.R_below (pR_ Ma.out) hb)<|D (below_step (pB_ HB.out) hb)
             clear Ja Ma HB;obtain ⟨Ja,Ma,HB⟩:=n_;refine hK.out _ _ (rk6_ HB.out aj ai ah ag af ae (rk6_ HB.out ar aq ap ao an am HS12_)) (fun hHeld=>?_);clear hK K;refine nx_ (N:=some 39) ?_;refine pb_ 17 ?_;refine pb_ 18 ?_;refine pb_ 19 ?_;refine done_ (done_of HT_.out (by kernel_rfl)) ?_
             try go_wp2
             go_roundg s
             case measure=>have:=i.out;have:=j.out;have:=l.out;omega
             case rel=>exact ⟨(((rd Ka d) == Ua)),(wrap64 (a+1)),Z69,Z69,H',⟨by have:=i.out;have:=j.out;have:=l.out;omega⟩,⟨pR_ (Kd.R_mono Ja.out (fun _ hk=>trivial))⟩,⟨pB_ HB.out⟩⟩
            ·rw [if_neg z] at H
             exact absurd H (by simp)
           ·rw [if_neg y] at H
            exact absurd H (by simp)
          ·rw [if_neg c9] at H
           exact absurd H (by simp)
         ·replace c8:=Bool.eq_false_iff.mpr c8
          subst c8;rw [if_neg (show ¬ (false=true) by decide)] at H;have H':=D H;clear H
          try go_wp2
          have n_:=an_ (Kd.R_drew Ja.out)<|D (below_drew1 HB.out)
          clear Ja HB;obtain ⟨Ja,HB⟩:=n_;refine start_ (n:=20) (S:=fun w'=>True) (ds:=[]) (bz 20 0) (by kernel_rfl) rfl (by kernel_rfl) trivial (fun hHeld=>?_);refine with_tabW spec_l19Mains.tab9 spec_l19Mains.bits9 (fun HT_ HW_=>?_);generalize wr.drew=bo at Ja HB hHeld ⊢;refine pb_ 0 ?_;refine pb_ 1 ?_;refine ob_ 2 ?_;refine ob_ 3 ?_;refine ob_ 4 ?_;refine ob_ 5 ?_;refine ob_ 6 ?_;refine ob_ 7 ?_;refine ob_ 8 ?_;refine ob_ 9 ?_;refine ob_ 10 ?_;refine ob_ 11 ?_;refine ob_ 12 ?_;refine ob_ 13 ?_;refine ob_ 14 ?_;refine ob_ 15 ?_;refine ob_ 16 ?_;refine ob_ 17 ?_;refine pb_ 18 ?_;refine pb_ 19 ?_;refine done_ (done_of HT_.out (by kernel_rfl)) ?_
          try go_wp2
          go_roundg s
          case measure=>have:=i.out;have:=j.out;have:=l.out;omega
          case rel=>exact ⟨(false),(wrap64 (a+1)),Z69,Z69,H',⟨by have:=i.out;have:=j.out;have:=l.out;omega⟩,⟨pR_ Ja.out⟩,⟨pB_ HB.out⟩⟩
        ·rw [if_neg c7] at H
         have aZ:decide (a < (l0.length:Int))=false:=decide_eq_false c7;clear c7
         by_cases Z:q=true
         ·subst Z
          rw [if_pos rfl] at H
          by_cases aa:g.length < 17592186044416
          ·rw [if_pos aa] at H
           have ba:=D aa;clear aa;obtain ⟨aR,v⟩:∃ y_:List Int,y_=(g ++ [d]):=⟨_,rfl⟩
           replace H:(spec_l19Mains.l0 s l0 aR (wrap64 (d+1)))=some r:=by first|(rw [v];with_reducible exact H)|(have H2_:=(Option.bind_some _ _).symm.trans H;rw [v];with_reducible exact H2_)|(have H2_:=(Option.bind_some _ _).symm.trans H;with_reducible exact H2_)|with_reducible exact H|(rw [v];exact H)|exact H
           have bb:=D v;clear v;have H':=D H;clear H
           go_wp2_with (first|((with_reducible refine gate_builtin (b:=.append) (xs:=#[.tmp 43,.tmp 45]) rfl ?_);(try (refine gate_guard (by rfl) ?_;dsimp only));at_builtin;refine Kd.R_append (Kd.int .i64) (w0:=w) w.heap.size rfl (.tmp 43) (.tmp 45) 33 3 (I L 0) 8 rfl Try.underlying33 info3 rfl (by decide) (by omega) u3 g d [I L d] (fun _=>True) (fun _=>False) rfl rfl ?aP (fun _ hk=>hk.elim) ?aF ?aO ?aB ?aS ?aL ?_;(case aP=>exact rfl);(case aB=>exact (pB_ HB.out));(case aF=>exact (fun _ _=>trivial));(case aO=>exact (pR_ Ja.out));(case aS=>exact (below_size (pB_ HB.out)));(case aL=>have:=ba.out;omega);intro Mc bp ho hb hg hat;rw [← bb.out] at ho;have n_:=an_ (hb)<|D (ho);clear HB Ja;obtain ⟨HB,Jb⟩:=n_;clear ho hb hg hat))
           go_roundg s
           case measure=>have:=i.out;have:=j.out;have:=l.out;omega
           case rel=>exact ⟨(aR),(wrap64 (d+1)),Z69,H',⟨by have:=i.out;have:=j.out;have:=l.out;omega⟩,⟨pR_ Jb.out⟩,⟨pB_ HB.out⟩⟩
          ·rw [if_neg aa] at H
           exact absurd H (by simp)
         ·replace Z:=Bool.eq_false_iff.mpr Z
          subst Z;rw [if_neg (show ¬ (false=true) by decide)] at H;have H':=D H;clear H
          go_wp2
          go_roundg s
          case measure=>have:=i.out;have:=j.out;have:=l.out;omega
          case rel=>exact ⟨(g),(wrap64 (d+1)),Z69,H',⟨by have:=i.out;have:=j.out;have:=l.out;omega⟩,⟨pR_ Ja.out⟩,⟨pB_ HB.out⟩⟩
     ·replace c6:=Bool.eq_false_iff.mpr c6
      subst c6;rw [if_neg (show ¬ (false=true) by decide)] at H;obtain rfl:=Option.some.inj H
      go_wp2
      go_ret;exact ⟨_,er_,by (with_reducible repeat (first|apply Kd.R_alloc|apply Kd.R_drewN|apply Kd.R_drew));exact Ja.out,pB_ HB.out⟩
def spec_Mains.f (k:Nat) (l0:List (S44)) (c a b:Int):Option (List Int):=(spec_l19Span.f k l0 a b).bind fun Kb=>(if Kb=true then ((spec_l19Mine.f k l0 c a b).bind fun Mb=>((spec_l19Mains.f k Mb).bind fun Ob=>(some Ob))) else (some ([]:List Int)))
theorem spec_Mains.calls (k:Nat) (j:Option Addr) (l:Nat) (l0:List (S44)) (g a b:Int) (r:List Int) (w:World) (o:Kd.C k44 w j l0.length l0) (p:l0.length≤l) (h:spec_Mains.f k l0 g a b=some r) :
  Calls Try.prog 12 #[Y j l0.length l,I L g,I L a,I L b] w fun e w'=>∃ q:Value,e=.returned (q)∧Kd.R (Kd.int .i64) 3 w' w.heap.size (fun _=>True) q r∧Below w.heap.size w w':=by
 have s:=D o
 have t:=D p
 clear o p
 have HB:=D (Below.refl w.heap.size w)
 have H:((spec_l19Span.f k l0 a b).bind fun m=>(if m=true then ((spec_l19Mine.f k l0 g a b).bind fun i=>((spec_l19Mains.f k i).bind fun n=>(some n))) else (some ([]:List Int))))=some r:=h
 clear h
 obtain ⟨m,u,H⟩:=bs_.mp H
 (try dsimp only at H)
 have A:=D u
 clear u
 have v:=D H
 clear H
 go_enter Try.func12,Try.ntmps12
 go_upto_if 13 with (first|((with_reducible refine gate_callee (f:=27) rfl ?_);refine goesL_ (some 12) rfl rfl Try.func27 (by kernel_rfl) rfl #[Y j l0.length l,I L a,I L b] rfl Z20 ?_;(with_reducible refine (spec_l19Span.calls k _ _ l0 a b m _ ?side1 ?side2 A.out).mono ?_);(case side1=>exact pC_ s.out);(case side2=>exact t.out);rintro e K ⟨rfl,hb⟩;refine ⟨_,rfl,?_⟩;have x:=D (below_step (pB_ HB.out) hb);clear HB;have HB:=x;clear x;(try clear hb)))
 have H:=v.out
 clear v
 by_cases c8:m=true
 ·subst c8
  rw [if_pos rfl] at H;obtain ⟨i,y,H⟩:=bs_.mp H;(try dsimp only at H);have B:=D y;clear y;obtain ⟨n,z,H⟩:=bs_.mp H;(try dsimp only at H);have E:=D z;clear z;obtain rfl:=Option.some.inj H
  go_wp2_with (first|((with_reducible refine gate_callee (f:=29) rfl ?_);refine goesL_ (some 18) rfl rfl Try.func29 (by kernel_rfl) rfl #[Y j l0.length l,I L g,I L a,I L b] rfl Z20 ?_;(with_reducible refine (spec_l19Mine.calls k (fun k_=>k_ < w.heap.size) _ _ l0 g a b i _ ?side1 B.out).mono ?_);(case side1=>exact Kd.V_mk t.out (Kd.F_below (Kd.C_F k44_heap s.out) (pB_ HB.out)));rintro e M ⟨O,rfl,c,hb⟩;refine ⟨_,rfl,?_⟩;have n_:=an_ (Kd.N_lower (Kd.N_mono (ok':=fun k_=>True) c (fun k_ hk_=>trivial)) (below_size (pB_ HB.out)))<|D (below_step (pB_ HB.out) hb);clear HB;obtain ⟨d,HB⟩:=n_;(try clear hb);(try clear c);obtain ⟨Ao12,co12,G⟩:=Kd.N_slice d.out;subst G)|((with_reducible refine gate_callee (f:=30) rfl ?_);refine goesL_ (some 19) rfl rfl Try.func30 (by kernel_rfl) rfl #[Y Ao12 i.length co12] rfl Z20 ?_;(with_reducible refine (spec_l19Mains.calls k _ _ i n _ ?side1 ?side2 E.out).mono ?_);(case side1=>exact pC_ ((Kd.N_reads' d.out).2.2));(case side2=>exact (Kd.N_reads' d.out).2.1);rintro e P ⟨T,rfl,c,hb⟩;refine ⟨_,rfl,?_⟩;have n_:=an_ (Kd.N_elder' (pN_ d.out) (Kd.R_base c) hb)<|an_ (Kd.R_lower c (below_size (pB_ HB.out)))<|D (below_step (pB_ HB.out) hb);clear d HB;obtain ⟨d,J,HB⟩:=n_;(try clear hb);(try clear c)))
  go_ret;exact ⟨_,er_,by (with_reducible repeat (first|apply Kd.R_alloc|apply Kd.R_drewN|apply Kd.R_drew));exact J.out,pB_ HB.out⟩
 ·replace c8:=Bool.eq_false_iff.mpr c8
  subst c8;rw [if_neg (show ¬ (false=true) by decide)] at H;obtain rfl:=Option.some.inj H
  go_wp2
  go_ret;exact ⟨_,er_,by first|exact Kd.R_nil _ _ _ _ _|exact Kd.N_nil _ _ _ _ _|exact Kd.V_nil _ _ _ _ _|exact Kd.Q_nil _ _ _ _ _|exact Kd.S_nil _ _ _ _ _,pB_ HB.out⟩
def laws_vec.f (b c d a:Int):Option (Int):=if a=0 then (some b) else (if a=1 then (some c) else (some d))
theorem laws_vec.calls (b c d a r:Int) (w:World) (h:laws_vec.f b c d a=some r) :
  Calls Try.prog 13 #[.agg #[I L b,I L c,I L d],I L a] w fun e w'=>e=.returned (I L r)∧Below w.heap.size w w':=by
 have hu29:=Try.underlying29
 have HB:=D (Below.refl w.heap.size w)
 have H:(if a=0 then (some b) else (if a=1 then (some c) else (some d)))=some r:=h
 clear h
 have j:=D H
 clear H
 go_enter Try.func13,Try.ntmps13
 go_upto_if 6 with (first|((with_reducible refine gate_dst (N:=2) rfl ?_);refine bx_ (N:=2) (cs:=#[I L b,I L c,I L d]) (t:=29) ?_;intro k hg o hbox hb;have n_:=an_ (below_step (pB_ HB.out) hb)<|an_ (hbox)<|an_ (bg_ hg (pB_ HB.out):w.heap.size≤k)<|D (bg_ hg (pB_ HB.out):w.heap.size≤k);clear HB;obtain ⟨HB,g,p,q⟩:=n_;clear hb hbox hg))
 have H:=j.out
 clear j
 by_cases c5:a=0
 ·rw [if_pos c5] at H
  have i:(a == 0)=true:=beq_iff_eq.mpr c5;have l:(a != 0)=false:=bne_eq_false_iff_eq.mpr c5;clear c5;refine rw_ i ?_;obtain rfl:=Option.some.inj H;have s:=cells3 g.out
  go_wp2
  go_ret;exact ⟨er_,pB_ HB.out⟩
 ·rw [if_neg c5] at H
  have i:(a == 0)=false:=beq_eq_false_iff_ne.mpr c5;have l:(a != 0)=true:=bne_iff_ne.mpr c5;refine rw_ i ?_
  by_cases c7:a=1
  ·rw [if_pos c7] at H
   have m:(a == 1)=true:=beq_iff_eq.mpr c7;have n:(a != 1)=false:=bne_eq_false_iff_eq.mpr c7;clear c7;obtain rfl:=Option.some.inj H;have u:=cells3 g.out
   go_wp2
   go_ret;exact ⟨er_,pB_ HB.out⟩
  ·rw [if_neg c7] at H
   have m:(a == 1)=false:=beq_eq_false_iff_ne.mpr c7;have n:(a != 1)=true:=bne_iff_ne.mpr c7;obtain rfl:=Option.some.inj H;have v:=cells3 g.out
   go_wp2
   go_ret;exact ⟨er_,pB_ HB.out⟩
def laws_in.l0:Nat→List Int→Int→Int→Option (Bool)
 | 0,_,_,_=>none
 | k+1,b,c,a=>if a < (b.length:Int) then (if 0≤a then (if (rd b a)=c then (some true) else (laws_in.l0 k b c (wrap64 (a+1)))) else (none)) else (some false)
def laws_in.f (k:Nat) (l0:List Int) (a:Int):Option (Bool):=laws_in.l0 k l0 a 0
theorem laws_in.calls (k:Nat) (i:Option Addr) (j:Nat) (l0:List Int) (b:Int) (r:Bool) (w:World) (l:Kd.C (Kd.int .i64) w i l0.length l0) (m:l0.length≤j) (h:laws_in.f k l0 b=some r) :
  Calls Try.prog 14 #[Y i l0.length j,I L b] w fun e w'=>e=.returned (.bool r)∧Drawn0 w w':=by
 have p:=D l
 have x:=D m
 clear l m
 have H:(laws_in.l0 k l0 b 0)=some r:=h
 clear h
 have H':=D H
 clear H
 go_enter Try.func14,Try.ntmps14
 go_wp2
 go_loopg [5] k (fun kq q w'=>∃ (a:Int),q=I L a∧Aside0 (laws_in.l0 kq l0 b a=some r)∧Aside0 (kq≤k)∧Drawn0 w w')
 case atStart=>exact ⟨(0),Z69,H',⟨Nat.le_refl _⟩,by repeat (first | exact Drawn0.refl _ | apply Drawn0.step)⟩
 case round =>
  clear H'
  (try clear y);(try clear z)
  obtain ⟨a,rfl,HA,n,⟨A,rfl⟩⟩:=hrel
  cases gk with
  | zero=>exact absurd HA.out (by simp [laws_in.l0])
  | succ s =>
   have H:=HA.out;clear HA;simp only [laws_in.l0] at H
   by_cases c3:a < (l0.length:Int)
   ·rw [if_pos c3] at H
    have t:decide (a < (l0.length:Int))=true:=decide_eq_true c3;clear c3
    by_cases c4:0≤a
    ·rw [if_pos c4] at H
     have B:decide (0≤a)=true:=decide_eq_true c4;clear c4;have o:=D H;clear H;have c:0≤(a:Int):=od_ Z68;have d:a < (l0.length:Int):=od_ Z68;obtain ⟨E,u,G⟩:=Kd.at_int p.out a c d;cases u;replace c:=eq_true c;replace d:=eq_true d
     go_upto_if 17 with (fail)
     have H:=o.out;clear o
     by_cases c6:(rd l0 a)=b
     ·rw [if_pos c6] at H
      have g:((rd l0 a) == b)=true:=beq_iff_eq.mpr c6;have v:((rd l0 a) != b)=false:=bne_eq_false_iff_eq.mpr c6;clear c6;refine rw_ g ?_;obtain rfl:=Option.some.inj H
      go_wp2
      go_ret;exact ⟨by first | rfl | (simp;done) | (simp [*];done),by repeat (first | exact Drawn0.refl _ | apply Drawn0.step)⟩
     ·rw [if_neg c6] at H
      have g:((rd l0 a) == b)=false:=beq_eq_false_iff_ne.mpr c6;have v:((rd l0 a) != b)=true:=bne_iff_ne.mpr c6;refine rw_ g ?_;have H':=D H;clear H
      go_wp2
      go_roundg s
      case measure=>have:=n.out;omega
      case rel=>exact ⟨(wrap64 (a+1)),Z69,H',⟨by have:=n.out;omega⟩,by repeat (first | exact Drawn0.refl _ | apply Drawn0.step)⟩
    ·rw [if_neg c4] at H
     exact absurd H (by simp)
   ·rw [if_neg c3] at H
    have t:decide (a < (l0.length:Int))=false:=decide_eq_false c3;clear c3;obtain rfl:=Option.some.inj H
    go_wp2
    go_ret;exact ⟨by first | rfl | (simp;done) | (simp [*];done),by repeat (first | exact Drawn0.refl _ | apply Drawn0.step)⟩
end Go.Proofs.Ytpkdkhhknmlpjaa.PFnTakenAdds
