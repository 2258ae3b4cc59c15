-- by a program of this session's, over the kit's words
import Derived.Test.YtjhgkonacdimfacPZFnExactTreeServe
import Derived.Test.YtjhgkonacdimfacPFnExactTreeServex0
import Derived.Test.YtjhgkonacdimfacPFnExactTreeServex10
import Derived.Test.YtjhgkonacdimfacPFnExactTreeServex11
namespace Go.Proofs.Ytjhgkonacdimfac.PFnExactTreeServe
open Go.RowKit Go.Proofs.YtjhgkonacdimfacW.PrintWords Go.Proofs.YtjhgkonacdimfacW.PrintLast Go.Proofs.YtjhgkonacdimfacW.PrintMore Go.Proofs.YtjhgkonacdimfacV Go.Proofs.Ytjhgkonacdimfac.ZFnExactTreeServe
open Go.Value renaming int → I, slice → Y
open Go.IntKind renaming i64 → L
open Aside0 renaming mk → D
open Option renaming bind_eq_some_iff → bs_
attribute [local go_sem] qam_ qak_ qaw_ qav_ qae_ qad_ qal_ qaj_
set_option linter.unusedVariables false
set_option linter.unusedSimpArgs false
set_option maxHeartbeats 8000000
set_option maxRecDepth 100000
mutual
def impl_FairOk.j0:Nat→Bool→Int→Int→Int→Int→List (S75)→Option (Bool)
 | 0,_,_,_,_,_,_=>none
 | k+1,j,d,e,g,h,c=>if j=true then (some false) else (impl_FairOk.l0 k c (c.length:Int) 0 d e g h c)
def impl_FairOk.l0:Nat→List (S75)→Int→Int→Int→Int→Int→Int→List (S75)→Option (Bool)
 | 0,_,_,_,_,_,_,_,_=>none
 | k+1,b,i,a,d,e,g,h,c=>if a < i then (if 0≤a then (if a < (b.length:Int) then ((impl_Fair_kidOk.f d e g h c ((qb_ b a).f0) ((qb_ b a).f1) ((qb_ b a).f2) ((qb_ b a).f3.f0) ((qb_ b a).f3.f1) ((qb_ b a).f3.f2)).bind fun l=>(if l=true then (if a > 0 then (if 0≤(wrap64 (a - 1)) then (if (wrap64 (a - 1)) < (c.length:Int) then (if ((qb_ c (wrap64 (a - 1))).f0) ≥ ((qb_ b a).f0) then (some false) else (impl_FairOk.l0 k b i (wrap64 (a+1)) d e g h c)) else (none)) else (none)) else (impl_FairOk.l0 k b i (wrap64 (a+1)) d e g h c)) else (some false))) else (none)) else (none)) else (some true)
end
def impl_FairOk.f (k:Nat) (d a b c:Int) (e:List (S75)):Option (Bool):=(impl_Narrow.f a b c d).bind fun g=>(if g=true then ((impl_VecTop.f a b c).bind fun h=>(if h > 100000000000 then (impl_FairOk.j0 k true d a b c e) else (impl_FairOk.j0 k (decide ((e.length:Int) > 48)) d a b c e))) else (impl_FairOk.j0 k true d a b c e))
def impl_FairOk.T6:Bool×List (List Nat×List Nat):=(true,[([],[]),([],[]),([0,1],[0,1]),([2],[2]),([3,2],[3]),([4],[4]),([5,4],[4,5]),([6,4,4],[4,6]),([7],[7]),([8,7],[7,8]),([7],[7]),([10,7],[7,10]),([9,11,7],[7,9,11]),([12,7],[7,12]),([13,7],[7,13]),([7],[7]),([15,7],[7,15]),([14,16,7],[7,14,16]),([7,17,4],[4,7,17]),([4,18],[4,18])])
def impl_FairOk.B6:List Nat:=[0,0,3,7,15,31,63,127,255,511,255,1279,4095,8191,16383,255,33023,131071,262143,524287]
theorem impl_FairOk.tab6:rtab .any (opsOf Try.f49 6)=impl_FairOk.T6:=by kernel_rfl
theorem impl_FairOk.bits6:q3_ impl_FairOk.T6.2 impl_FairOk.B6=true:=by kernel_rfl
theorem impl_FairOk.calls (k:Nat) (i b c d:Int) (M:Option Addr) (l:Nat) (a:List (S75)) (r:Bool) (w:World) (aw:Kd.C k75 w M a.length a) (ax:a.length≤l) (h:impl_FairOk.f k i b c d a=some r) :
  Calls Try.prog 49 #[.agg #[I L i,I L b,I L c,I L d,Y M a.length l]] w fun e w'=>e=.returned (.bool r)∧Below w.heap.size w w':=by
 have hu34:=Try.underlying34
 have hu31:=Try.underlying31
 have hu75:=Try.underlying75
 have B:=D aw
 have an:=D ax
 clear aw ax
 have HB:=D (Below.refl w.heap.size w)
 have H:((impl_Narrow.f b c d i).bind fun Ob=>(if Ob=true then ((impl_VecTop.f b c d).bind fun Jb=>(if Jb > 100000000000 then (impl_FairOk.j0 k true i b c d a) else (impl_FairOk.j0 k (decide ((a.length:Int) > 48)) i b c d a))) else (impl_FairOk.j0 k true i b c d a)))=some r:=h
 clear h
 have ao:=D H
 clear H
 go_enter Try.func49,Try.ntmps49
 go_upto_region 1 with (first|((with_reducible refine qh_ (N:=1) rfl ?_);(try (refine q7_ (by rfl) ?_;dsimp only));refine bx_ (N:=1) (cs:=#[I L i,I L b,I L c,I L d,Y M a.length l]) (t:=34) ?_;intro Ua hg w3 hbox hb;have n_:=an_ (qd_ (pB_ HB.out) hb)<|an_ (hbox)<|an_ (bg_ hg (pB_ HB.out):w.heap.size≤Ua)<|D (bg_ hg (pB_ HB.out):w.heap.size≤Ua);clear HB;obtain ⟨HB,Ka,Jp,Kp⟩:=n_;clear hb hbox hg))
 (try simp only [Act.put,List.setIfInBounds_toArray,List.set_cons_zero,List.set_cons_succ])
 go_cut [22] (fun aK wc=>∃ (kq:Nat) (Mb:Bool),aK=.bool Mb∧Aside0 (impl_FairOk.j0 kq Mb i b c d a=some r)∧Aside0 (kq≤k)∧Aside0 (wc.heap[Ua]?=some (.cells #[I L i,I L b,I L c,I L d,(Y M a.length l)] 34 (0,0)))∧Aside0 (Below w.heap.size w wc))
 case first =>
  have H:=ao.out;clear ao;obtain ⟨Ob,ay,H⟩:=bs_.mp H;(try dsimp only at H);have A4:=D ay;clear ay
  by_cases c5:Ob=true
  ·subst c5
   rw [if_pos rfl] at H;obtain ⟨Jb,az,H⟩:=bs_.mp H;(try dsimp only at H);have A6:=D az;clear az
   by_cases c7:Jb > 100000000000
   ·rw [if_pos c7] at H
    have O:decide (100000000000 < Jb)=true:=decide_eq_true c7;clear c7;refine rw_ O ?_;have H':=D H;clear H;obtain ⟨Ub,Xb,Jc,Kc,Mc,Oc,Uc,Xc,Jd,Md⟩:=qx_ Ka.out
    go_wp2_with (first|((with_reducible refine qe_ (f:=70) rfl ?_);refine qp_ (some 9) rfl rfl Try.func70 (by kernel_rfl) rfl #[.agg #[I L b,I L c,I L d],I L i] rfl Z24 ?_;(with_reducible refine (impl_Narrow.calls b c d i true _ A4.out).mono ?_);rintro e w9 ⟨rfl,hb⟩;refine ⟨_,rfl,?_⟩;have n_:=an_ (qa_ (pk_ Ka.out) hb)<|D (qd_ (pB_ HB.out) hb);clear Ka HB;obtain ⟨Ka,HB⟩:=n_;(try clear hb);obtain ⟨Od,Ud,Xd,Je,Ke,Me,Oe,Ue,Xe,Jf⟩:=qx_ Ka.out)|(go_at_call 51;(with_reducible refine (impl_VecTop.calls b c d Jb _ A6.out).mono ?_);rintro e aV ⟨rfl,hb⟩;have n_:=an_ (qa_ (pk_ Ka.out) hb)<|D (qd_ (pB_ HB.out) hb);clear Ka HB;obtain ⟨Ka,HB⟩:=n_;(try clear hb)))
    go_meet
    case rel=>exact ⟨_,(true),Z92,H',⟨by first | omega | exact Nat.le_refl _⟩,⟨pk_ Ka.out⟩,⟨pB_ HB.out⟩⟩
   ·rw [if_neg c7] at H
    have O:decide (100000000000 < Jb)=false:=decide_eq_false c7;clear c7;refine rw_ O ?_;have H':=D H;clear H;obtain ⟨Kf,Mf,Of,Uf,Xf,Jg,Kg,Mg,Og,Ug⟩:=qx_ Ka.out
    go_wp2_with (first|((with_reducible refine qe_ (f:=70) rfl ?_);refine qp_ (some 9) rfl rfl Try.func70 (by kernel_rfl) rfl #[.agg #[I L b,I L c,I L d],I L i] rfl Z24 ?_;(with_reducible refine (impl_Narrow.calls b c d i true _ A4.out).mono ?_);rintro e aW ⟨rfl,hb⟩;refine ⟨_,rfl,?_⟩;have n_:=an_ (qa_ (pk_ Ka.out) hb)<|D (qd_ (pB_ HB.out) hb);clear Ka HB;obtain ⟨Ka,HB⟩:=n_;(try clear hb);obtain ⟨Xg,Jh,Kh,Mh,Oh,Uh,Xh,Ji,Ki,Mi⟩:=qx_ Ka.out)|(go_at_call 51;(with_reducible refine (impl_VecTop.calls b c d Jb _ A6.out).mono ?_);rintro e aX ⟨rfl,hb⟩;have n_:=an_ (qa_ (pk_ Ka.out) hb)<|D (qd_ (pB_ HB.out) hb);clear Ka HB;obtain ⟨Ka,HB⟩:=n_;(try clear hb);obtain ⟨Oi,Ui,Xi,Jj,Kj,Mj,Oj,Uj,Xj,Jk⟩:=qx_ Ka.out))
    go_meet
    case rel=>exact ⟨_,(decide ((a.length:Int) > 48)),Z92,H',⟨by first | omega | exact Nat.le_refl _⟩,⟨pk_ Ka.out⟩,⟨pB_ HB.out⟩⟩
  ·replace c5:=Bool.eq_false_iff.mpr c5
   subst c5;rw [if_neg (show ¬ (false=true) by decide)] at H;have H':=D H;clear H;obtain ⟨Kk,Mk,Ok,Uk,Xk,Jm,Km,Mm,Om,Um⟩:=qx_ Ka.out
   go_wp2_with (first|((with_reducible refine qe_ (f:=70) rfl ?_);refine qp_ (some 9) rfl rfl Try.func70 (by kernel_rfl) rfl #[.agg #[I L b,I L c,I L d],I L i] rfl Z24 ?_;(with_reducible refine (impl_Narrow.calls b c d i false _ A4.out).mono ?_);rintro e aY ⟨rfl,hb⟩;refine ⟨_,rfl,?_⟩;have n_:=an_ (qa_ (pk_ Ka.out) hb)<|D (qd_ (pB_ HB.out) hb);clear Ka HB;obtain ⟨Ka,HB⟩:=n_;(try clear hb)))
   go_meet
   case rel=>exact ⟨_,(true),Z92,H',⟨by first | omega | exact Nat.le_refl _⟩,⟨pk_ Ka.out⟩,⟨pB_ HB.out⟩⟩
 case rest =>
  clear ao
  (try clear p2);(try clear c4);(try clear c5);(try clear c7);(try clear O);(try clear Od Ud Xd Je Ke Me Oe Ue Xe Jf);(try clear Kf Mf Of Uf Xf Jg Kg Mg Og Ug);(try clear Xg Jh Kh Mh Oh Uh Xh Ji Ki Mi);(try clear Oi Ui Xi Jj Kj Mj Oj Uj Xj Jk);(try clear Kk Mk Ok Uk Xk Jm Km Mm Om Um);(try clear Ub Xb Jc Kc Mc Oc Uc Xc Jd Md)
  obtain ⟨kq,Mb,rfl,HA,U,Ka,HB⟩:=hcut
  cases kq with
  | zero=>exact absurd HA.out (by simp [impl_FairOk.j0])
  | succ kj1 =>
   have H:=HA.out;clear HA;simp only [impl_FairOk.j0] at H
   by_cases P:Mb=true
   ·subst P
    rw [if_pos rfl] at H;obtain rfl:=Option.some.inj H
    go_wp2
    go_ret;exact ⟨er_,pB_ HB.out⟩
   ·replace P:=Bool.eq_false_iff.mpr P
    subst P;rw [if_neg (show ¬ (false=true) by decide)] at H;have H':=D H;clear H;obtain ⟨Kn,Mn,On,Un,Xn,Jo,Ko,Mo,Oo,Uo⟩:=qx_ Ka.out
    go_wp2
    go_loopg [26] kj1 (fun kq aL w'=>∃ (Ja:Int),aL=I L Ja∧Aside0 (impl_FairOk.l0 kq a (a.length:Int) Ja i b c d a=some r)∧Aside0 (kq≤kj1)∧Aside0 (w'.heap[Ua]?=some (.cells #[I L i,I L b,I L c,I L d,(Y M a.length l)] 34 (0,0)))∧Aside0 (Below w.heap.size w w'))
    case atStart=>exact ⟨(0),Z92,H',⟨Nat.le_refl _⟩,⟨pk_ Ka.out⟩,⟨pB_ HB.out⟩⟩
    case round =>
     clear H'
     (try clear c1);(try clear p2);(try clear c4);(try clear c5);(try clear c7);(try clear O);(try clear P);(try clear Od Ud Xd Je Ke Me Oe Ue Xe Jf);(try clear Kf Mf Of Uf Xf Jg Kg Mg Og Ug);(try clear Xg Jh Kh Mh Oh Uh Xh Ji Ki Mi);(try clear Oi Ui Xi Jj Kj Mj Oj Uj Xj Jk);(try clear Kk Mk Ok Uk Xk Jm Km Mm Om Um);(try clear Kn Mn On Un Xn Jo Ko Mo Oo Uo);(try clear Ub Xb Jc Kc Mc Oc Uc Xc Jd Md);(try clear p2)
     obtain ⟨Ja,rfl,HA,W,Ka,HB⟩:=hrel
     cases gk with
     | zero=>exact absurd HA.out (by simp [impl_FairOk.l0])
     | succ k2 =>
      have H:=HA.out;clear HA;simp only [impl_FairOk.l0] at H
      by_cases E:Ja < (a.length:Int)
      ·rw [if_pos E] at H
       have aM:decide (Ja < (a.length:Int))=true:=decide_eq_true E;clear E
       by_cases X:0≤Ja
       ·rw [if_pos X] at H
        have a0:decide (0≤Ja)=true:=decide_eq_true X;clear X
        by_cases Z:Ja < (a.length:Int)
        ·rw [if_pos Z] at H
         have a1:decide (Ja < (a.length:Int))=true:=decide_eq_true Z;clear Z;obtain ⟨Xo,aC,H⟩:=bs_.mp H;(try dsimp only at H);have aa:=D aC;clear aC
         by_cases ab:Xo=true
         ·subst ab
          rw [if_pos rfl] at H
          by_cases G:Ja > 0
          ·rw [if_pos G] at H
           have aN:decide (0 < Ja)=true:=decide_eq_true G;clear G;obtain ⟨g,hji27⟩:∃ j_:Int,(wrap64 (Ja - 1))=j_:=⟨_,rfl⟩
           replace H:(if 0≤(g) then (if (g) < (a.length:Int) then (if ((qb_ a (g)).f0) ≥ ((qb_ a Ja).f0) then (some false) else (impl_FairOk.l0 k2 a (a.length:Int) (wrap64 (Ja+1)) i b c d a)) else (none)) else (none))=some r:=by first|(rw [hji27] at H;exact H)|(simp only [hji27] at H ⊢;exact H)
           (try rw [hji27] at aa);have hji27w:(IntKind.i64.wrap (Ja - 1))=g:=(i64_w _).trans hji27
           by_cases ac:0≤(g)
           ·rw [if_pos ac] at H
            have a2:decide (0≤(g))=true:=decide_eq_true ac;clear ac
            by_cases ad:(g) < (a.length:Int)
            ·rw [if_pos ad] at H
             have a3:decide ((g) < (a.length:Int))=true:=decide_eq_true ad;clear ad;have aD:=D H;clear H;have m:0≤(Ja:Int):=od_ Z91;have o:Ja < (a.length:Int):=od_ Z91;obtain ⟨j,T,p,q,s,u,v,x⟩:=qac_ B.out Ja m o;cases T;replace p:=rc_ HB.out p;replace q:=rc_ HB.out q;replace s:=rc_ HB.out s;replace u:=rc_ HB.out u;replace v:=rc_ HB.out v;replace x:=rc_ HB.out x;replace m:=eq_true m;replace o:=eq_true o
             try go_wp2_with (first|((with_reducible refine qh_ (N:=4) rfl ?_);(try (refine q7_ (by rfl) ?_;dsimp only));refine bx_ (N:=4) (cs:=#[I L 0,I L 0,.bool false,I L 0,I L 0,I L 0]) (t:=75) ?_;intro Ma hg aO hbox hb;have n_:=an_ (qa_ (pk_ Ka.out) hb)<|an_ (qd_ (pB_ HB.out) hb)<|an_ (hbox)<|an_ (bg_ hg (pB_ HB.out):w.heap.size≤Ma)<|an_ (bg_ hg (pB_ HB.out):w.heap.size≤Ma)<|an_ (nl_ hg (pk_ Ka.out):Ua≠Ma)<|D (by rw [hg];exact Nat.ne_of_gt (qt_ (pk_ Ka.out)):Ma≠Ua);clear Ka HB;obtain ⟨Ka,HB,Oa,Xm,Jn,Xa,Kb⟩:=n_;clear hb hbox hg;(try have:=Kb.out);(try have:=Xa.out);obtain ⟨Mp,Op,Up,Xp,Jq,Kq,Mq,Oq,Uq,Xq,Jr,Kr⟩:=qm_ Oa.out))
             obtain ⟨ae,hq_⟩:∃ W_,W_=((((((aO.setCell ⟨Ma,0,none⟩ (I L ((qb_ a Ja).f0))).setCell ⟨Ma,1,none⟩ (I L ((qb_ a Ja).f1))).setCell ⟨Ma,2,none⟩ (.bool ((qb_ a Ja).f2))).setCell ⟨Ma,3,none⟩ (I L ((qb_ a Ja).f3.f0))).setCell ⟨Ma,4,none⟩ (I L ((qb_ a Ja).f3.f1))).setCell ⟨Ma,5,none⟩ (I L ((qb_ a Ja).f3.f2))):=⟨_,rfl⟩;have y:Aside0 (ae.heap[Ua]?=some (.cells #[I L i,I L b,I L c,I L d,Y (some j) a.length l] 34 (0,0))):=⟨by rw [hq_];exact pP_ Ka.out⟩;have z:Aside0 (ae.heap[Ma]?=some (.cells #[I L ((qb_ a Ja).f0),I L ((qb_ a Ja).f1),.bool ((qb_ a Ja).f2),I L ((qb_ a Ja).f3.f0),I L ((qb_ a Ja).f3.f1),I L ((qb_ a Ja).f3.f2)] 75 (0,0))):=⟨by rw [hq_];exact pP_ Oa.out⟩;have A:Aside0 (Below w.heap.size w ae):=⟨by rw [hq_];exact pB_ HB.out⟩;(try clear Ka);(try clear Oa);(try clear HB);(try rw [←hq_]);clear hq_;have Ka:=y;have Oa:=z;have HB:=A;clear y z A
             have n_:=an_ (qi_ Ka.out)<|an_ (qi_ Oa.out)<|D (ql_ HB.out)
             clear Ka Oa HB;obtain ⟨Ka,Oa,HB⟩:=n_;have ar:0≤((g):Int):=od_ Z91;have au:(g) < (a.length:Int):=od_ Z91;obtain ⟨aP,aQ,af,ag,ah,ai,aj,ak⟩:=qac_ B.out (g) ar au;have aE:=ak;have aF:=aj;have aG:=ai;have aH:=ah;have aI:=ag;have aJ:=af;obtain rfl:j=aP:=(by injection aQ);replace af:=rc_ HB.out af;replace ag:=rc_ HB.out ag;replace ah:=rc_ HB.out ah;replace ai:=rc_ HB.out ai;replace aj:=rc_ HB.out aj;replace ak:=rc_ HB.out ak;replace ar:=eq_true ar;replace au:=eq_true au;refine q1_ (n:=20) (S:=fun w'=>w'.cell? ⟨Ua,0,none⟩=some (I L i)∧w'.cell? ⟨Ua,1,none⟩=some (I L b)∧w'.cell? ⟨Ua,2,none⟩=some (I L c)∧w'.cell? ⟨Ua,3,none⟩=some (I L d)∧w'.cell? ⟨Ua,4,none⟩=some (Y (some j) a.length l)∧w'.cell? ⟨Ma,0,none⟩=some (I L ((qb_ a Ja).f0))∧w'.cell? ⟨Ma,1,none⟩=some (I L ((qb_ a Ja).f1))∧w'.cell? ⟨Ma,2,none⟩=some (.bool ((qb_ a Ja).f2))∧w'.cell? ⟨Ma,3,none⟩=some (I L ((qb_ a Ja).f3.f0))∧w'.cell? ⟨Ma,4,none⟩=some (I L ((qb_ a Ja).f3.f1))∧w'.cell? ⟨Ma,5,none⟩=some (I L ((qb_ a Ja).f3.f2))∧w'.cell? (j.add (((g)).toNat * 6))=some (I L ((qb_ a (g)).f0))∧w'.cell? ⟨(j.add (((g)).toNat * 6)).block,(j.add (((g)).toNat * 6)).off+1,none⟩=some (I L ((qb_ a (g)).f1))∧w'.cell? ⟨(j.add (((g)).toNat * 6)).block,(j.add (((g)).toNat * 6)).off+2,none⟩=some (.bool ((qb_ a (g)).f2))∧w'.cell? ⟨(j.add (((g)).toNat * 6)).block,(j.add (((g)).toNat * 6)).off+3,none⟩=some (I L ((qb_ a (g)).f3.f0))∧w'.cell? ⟨(j.add (((g)).toNat * 6)).block,(j.add (((g)).toNat * 6)).off+4,none⟩=some (I L ((qb_ a (g)).f3.f1))∧w'.cell? ⟨(j.add (((g)).toNat * 6)).block,(j.add (((g)).toNat * 6)).off+5,none⟩=some (I L ((qb_ a (g)).f3.f2))) (ds:=[]) (bz 20 0) (by kernel_rfl) rfl (by kernel_rfl) (bk5_ Ka.out (bk6_ Oa.out (re6_ HB.out aJ aI aH aG aF aE))) (fun hHeld=>?_);refine qn_ impl_FairOk.tab6 impl_FairOk.bits6 (fun HT_ HW_=>?_);generalize ae.drew=a4 at Ka Oa HB af ag ah ai aj ak hHeld ⊢;refine tb_ 0 rfl rfl hHeld Z39 ?_;refine tb_ 1 rfl rfl hHeld Z39 ?_;refine oa_ 2 33 20 7 HT_ (fun K hK=>?_);refine goes_ Try.func71 (by kernel_rfl) rfl #[.agg #[I L i,I L b,I L c,I L d,Y (some j) a.length l],.agg #[I L ((qb_ a Ja).f0),I L ((qb_ a Ja).f1),.bool ((qb_ a Ja).f2),I L ((qb_ a Ja).f3.f0),I L ((qb_ a Ja).f3.f1),I L ((qb_ a Ja).f3.f2)]] (by rfl) rfl rfl Z24 ?_
             with_reducible refine (impl_Fair_kidOk.calls i b c d _ _ a ((qb_ a Ja).f0) ((qb_ a Ja).f1) ((qb_ a Ja).f2) ((qb_ a Ja).f3.f0) ((qb_ a Ja).f3.f1) ((qb_ a Ja).f3.f2) true _ ?side1 ?side2 aa.out).mono ?_
             (case side1=>exact pC_ (Kd.C_below B.out HB.out));(case side2=>exact an.out);rintro e a5 ⟨rfl,hb⟩;refine ⟨_,rfl,?_⟩
             have n_:=an_ (qa_ (pk_ Ka.out) hb)<|an_ (qa_ (pk_ Oa.out) hb)<|D (qd_ (pB_ HB.out) hb)
             clear Ka Oa HB;obtain ⟨Ka,Oa,HB⟩:=n_;refine hK.out _ _ (bk5_ Ka.out (bk6_ Oa.out (re6_ HB.out aJ aI aH aG aF aE))) (fun hHeld=>?_);clear hK K;refine nx_ (N:=some 33) ?_;refine pb_ 3 ?_;refine pb_ 4 ?_;refine pb_ 5 ?_;refine pb_ 6 ?_;refine pb_ 7 ?_;refine pb_ 8 ?_;refine pb_ 10 ?_;refine pb_ 11 ?_;refine pb_ 15 ?_;refine tb_ 9 rfl rfl hHeld Z39 ?_;refine pb_ 12 ?_;refine pb_ 13 ?_;refine tb_ 14 rfl rfl hHeld Z39 ?_;refine tb_ 16 rfl rfl hHeld Z39 ?_;refine pb_ 17 ?_;refine pb_ 18 ?_;refine pb_ 19 ?_;refine done_ (qv_ HT_.out (by kernel_rfl)) ?_
             go_upto_if 50 with (fail)
             have H:=aD.out;clear aD
             by_cases J:((qb_ a (g)).f0) ≥ ((qb_ a Ja).f0)
             ·rw [if_pos J] at H
              have av:decide (((qb_ a Ja).f0)≤((qb_ a (g)).f0))=true:=decide_eq_true J;clear J;refine rw_ av ?_;obtain rfl:=Option.some.inj H
              go_wp2
              go_ret;exact ⟨by first|rfl|(simp [qaa_,q9_] <;> rfl)|(simp only [← hji27];first|rfl|(simp [qaa_,q9_] <;> rfl))|(simp [*,qaa_,q9_] <;> rfl),pB_ HB.out⟩
             ·rw [if_neg J] at H
              have av:decide (((qb_ a Ja).f0)≤((qb_ a (g)).f0))=false:=decide_eq_false J;clear J;refine rw_ av ?_;have H':=D H;clear H
              go_wp2
              go_roundg k2
              case measure=>have:=U.out;have:=W.out;omega
              case rel=>exact ⟨(wrap64 (Ja+1)),Z92,H',⟨by have:=U.out;have:=W.out;omega⟩,⟨pk_ Ka.out⟩,⟨pB_ HB.out⟩⟩
            ·rw [if_neg ad] at H
             exact absurd H (by simp)
           ·rw [if_neg ac] at H
            exact absurd H (by simp)
          ·rw [if_neg G] at H
           have aN:decide (0 < Ja)=false:=decide_eq_false G;clear G;have H':=D H;clear H;have m:0≤(Ja:Int):=od_ Z91;have o:Ja < (a.length:Int):=od_ Z91;obtain ⟨j,T,p,q,s,u,v,x⟩:=qac_ B.out Ja m o;cases T;replace p:=rc_ HB.out p;replace q:=rc_ HB.out q;replace s:=rc_ HB.out s;replace u:=rc_ HB.out u;replace v:=rc_ HB.out v;replace x:=rc_ HB.out x;replace m:=eq_true m;replace o:=eq_true o
           try go_wp2_with (first|((with_reducible refine qh_ (N:=4) rfl ?_);(try (refine q7_ (by rfl) ?_;dsimp only));refine bx_ (N:=4) (cs:=#[I L 0,I L 0,.bool false,I L 0,I L 0,I L 0]) (t:=75) ?_;intro Ma hg aR hbox hb;have n_:=an_ (qa_ (pk_ Ka.out) hb)<|an_ (qd_ (pB_ HB.out) hb)<|an_ (hbox)<|an_ (bg_ hg (pB_ HB.out):w.heap.size≤Ma)<|an_ (bg_ hg (pB_ HB.out):w.heap.size≤Ma)<|an_ (nl_ hg (pk_ Ka.out):Ua≠Ma)<|D (by rw [hg];exact Nat.ne_of_gt (qt_ (pk_ Ka.out)):Ma≠Ua);clear Ka HB;obtain ⟨Ka,HB,Oa,Xm,Jn,Xa,Kb⟩:=n_;clear hb hbox hg;(try have:=Kb.out);(try have:=Xa.out);obtain ⟨Mr,Or,Ur,Xr,Js,Ks,Ms,Os,Us,Xs,Ju,Ku⟩:=qm_ Oa.out))
           obtain ⟨al,hq_⟩:∃ W_,W_=((((((aR.setCell ⟨Ma,0,none⟩ (I L ((qb_ a Ja).f0))).setCell ⟨Ma,1,none⟩ (I L ((qb_ a Ja).f1))).setCell ⟨Ma,2,none⟩ (.bool ((qb_ a Ja).f2))).setCell ⟨Ma,3,none⟩ (I L ((qb_ a Ja).f3.f0))).setCell ⟨Ma,4,none⟩ (I L ((qb_ a Ja).f3.f1))).setCell ⟨Ma,5,none⟩ (I L ((qb_ a Ja).f3.f2))):=⟨_,rfl⟩;have y:Aside0 (al.heap[Ua]?=some (.cells #[I L i,I L b,I L c,I L d,Y (some j) a.length l] 34 (0,0))):=⟨by rw [hq_];exact pP_ Ka.out⟩;have z:Aside0 (al.heap[Ma]?=some (.cells #[I L ((qb_ a Ja).f0),I L ((qb_ a Ja).f1),.bool ((qb_ a Ja).f2),I L ((qb_ a Ja).f3.f0),I L ((qb_ a Ja).f3.f1),I L ((qb_ a Ja).f3.f2)] 75 (0,0))):=⟨by rw [hq_];exact pP_ Oa.out⟩;have A:Aside0 (Below w.heap.size w al):=⟨by rw [hq_];exact pB_ HB.out⟩;(try clear Ka);(try clear Oa);(try clear HB);(try rw [←hq_]);clear hq_;have Ka:=y;have Oa:=z;have HB:=A;clear y z A
           have n_:=an_ (qi_ Ka.out)<|an_ (qi_ Oa.out)<|D (ql_ HB.out)
           clear Ka Oa HB;obtain ⟨Ka,Oa,HB⟩:=n_;refine q1_ (n:=20) (S:=fun w'=>w'.cell? ⟨Ua,0,none⟩=some (I L i)∧w'.cell? ⟨Ua,1,none⟩=some (I L b)∧w'.cell? ⟨Ua,2,none⟩=some (I L c)∧w'.cell? ⟨Ua,3,none⟩=some (I L d)∧w'.cell? ⟨Ua,4,none⟩=some (Y (some j) a.length l)∧w'.cell? ⟨Ma,0,none⟩=some (I L ((qb_ a Ja).f0))∧w'.cell? ⟨Ma,1,none⟩=some (I L ((qb_ a Ja).f1))∧w'.cell? ⟨Ma,2,none⟩=some (.bool ((qb_ a Ja).f2))∧w'.cell? ⟨Ma,3,none⟩=some (I L ((qb_ a Ja).f3.f0))∧w'.cell? ⟨Ma,4,none⟩=some (I L ((qb_ a Ja).f3.f1))∧w'.cell? ⟨Ma,5,none⟩=some (I L ((qb_ a Ja).f3.f2))) (ds:=[]) (bz 20 0) (by kernel_rfl) rfl (by kernel_rfl) (bk5_ Ka.out (be6_ Oa.out)) (fun hHeld=>?_);refine qn_ impl_FairOk.tab6 impl_FairOk.bits6 (fun HT_ HW_=>?_);generalize al.drew=a6 at Ka Oa HB hHeld ⊢;refine tb_ 0 rfl rfl hHeld Z85 ?_;refine tb_ 1 rfl rfl hHeld Z85 ?_;refine oa_ 2 33 20 7 HT_ (fun K hK=>?_);refine goes_ Try.func71 (by kernel_rfl) rfl #[.agg #[I L i,I L b,I L c,I L d,Y (some j) a.length l],.agg #[I L ((qb_ a Ja).f0),I L ((qb_ a Ja).f1),.bool ((qb_ a Ja).f2),I L ((qb_ a Ja).f3.f0),I L ((qb_ a Ja).f3.f1),I L ((qb_ a Ja).f3.f2)]] (by rfl) rfl rfl Z24 ?_;with_reducible refine (impl_Fair_kidOk.calls i b c d _ _ a ((qb_ a Ja).f0) ((qb_ a Ja).f1) ((qb_ a Ja).f2) ((qb_ a Ja).f3.f0) ((qb_ a Ja).f3.f1) ((qb_ a Ja).f3.f2) true _ ?side1 ?side2 aa.out).mono ?_
           (case side1=>exact pC_ (Kd.C_below B.out HB.out));(case side2=>exact an.out);rintro e a7 ⟨rfl,hb⟩;refine ⟨_,rfl,?_⟩
           have n_:=an_ (qa_ (pk_ Ka.out) hb)<|an_ (qa_ (pk_ Oa.out) hb)<|D (qd_ (pB_ HB.out) hb)
           clear Ka Oa HB;obtain ⟨Ka,Oa,HB⟩:=n_;refine hK.out _ _ (bk5_ Ka.out (be6_ Oa.out)) (fun hHeld=>?_);clear hK K;refine nx_ (N:=some 33) ?_;refine pb_ 3 ?_;refine pb_ 4 ?_;refine pb_ 5 ?_;refine pb_ 6 ?_;refine pb_ 7 ?_;refine ob_ 8 ?_;refine ob_ 9 ?_;refine ob_ 10 ?_;refine ob_ 11 ?_;refine ob_ 12 ?_;refine ob_ 13 ?_;refine ob_ 14 ?_;refine ob_ 15 ?_;refine ob_ 16 ?_;refine ob_ 17 ?_;refine pb_ 18 ?_;refine pb_ 19 ?_;refine done_ (qv_ HT_.out (by kernel_rfl)) ?_
           try go_wp2
           go_roundg k2
           case measure=>have:=U.out;have:=W.out;omega
           case rel=>exact ⟨(wrap64 (Ja+1)),Z92,H',⟨by have:=U.out;have:=W.out;omega⟩,⟨pk_ Ka.out⟩,⟨pB_ HB.out⟩⟩
         ·replace ab:=Bool.eq_false_iff.mpr ab
          subst ab;rw [if_neg (show ¬ (false=true) by decide)] at H;obtain rfl:=Option.some.inj H;have m:0≤(Ja:Int):=od_ Z91;have o:Ja < (a.length:Int):=od_ Z91;obtain ⟨j,T,p,q,s,u,v,x⟩:=qac_ B.out Ja m o;cases T;replace p:=rc_ HB.out p;replace q:=rc_ HB.out q;replace s:=rc_ HB.out s;replace u:=rc_ HB.out u;replace v:=rc_ HB.out v;replace x:=rc_ HB.out x;replace m:=eq_true m;replace o:=eq_true o
          try go_wp2_with (first|((with_reducible refine qh_ (N:=4) rfl ?_);(try (refine q7_ (by rfl) ?_;dsimp only));refine bx_ (N:=4) (cs:=#[I L 0,I L 0,.bool false,I L 0,I L 0,I L 0]) (t:=75) ?_;intro Ma hg aS hbox hb;have n_:=an_ (qa_ (pk_ Ka.out) hb)<|an_ (qd_ (pB_ HB.out) hb)<|an_ (hbox)<|an_ (bg_ hg (pB_ HB.out):w.heap.size≤Ma)<|an_ (bg_ hg (pB_ HB.out):w.heap.size≤Ma)<|an_ (nl_ hg (pk_ Ka.out):Ua≠Ma)<|D (by rw [hg];exact Nat.ne_of_gt (qt_ (pk_ Ka.out)):Ma≠Ua);clear Ka HB;obtain ⟨Ka,HB,Oa,Xm,Jn,Xa,Kb⟩:=n_;clear hb hbox hg;(try have:=Kb.out);(try have:=Xa.out);obtain ⟨Mu,Ou,Uu,Xu,Jv,Kv,Mv,Ov,Uv,Xv,Jx,Kx⟩:=qm_ Oa.out))
          obtain ⟨am,hq_⟩:∃ W_,W_=((((((aS.setCell ⟨Ma,0,none⟩ (I L ((qb_ a Ja).f0))).setCell ⟨Ma,1,none⟩ (I L ((qb_ a Ja).f1))).setCell ⟨Ma,2,none⟩ (.bool ((qb_ a Ja).f2))).setCell ⟨Ma,3,none⟩ (I L ((qb_ a Ja).f3.f0))).setCell ⟨Ma,4,none⟩ (I L ((qb_ a Ja).f3.f1))).setCell ⟨Ma,5,none⟩ (I L ((qb_ a Ja).f3.f2))):=⟨_,rfl⟩;have y:Aside0 (am.heap[Ua]?=some (.cells #[I L i,I L b,I L c,I L d,Y (some j) a.length l] 34 (0,0))):=⟨by rw [hq_];exact pP_ Ka.out⟩;have z:Aside0 (am.heap[Ma]?=some (.cells #[I L ((qb_ a Ja).f0),I L ((qb_ a Ja).f1),.bool ((qb_ a Ja).f2),I L ((qb_ a Ja).f3.f0),I L ((qb_ a Ja).f3.f1),I L ((qb_ a Ja).f3.f2)] 75 (0,0))):=⟨by rw [hq_];exact pP_ Oa.out⟩;have A:Aside0 (Below w.heap.size w am):=⟨by rw [hq_];exact pB_ HB.out⟩;(try clear Ka);(try clear Oa);(try clear HB);(try rw [←hq_]);clear hq_;have Ka:=y;have Oa:=z;have HB:=A;clear y z A
          have n_:=an_ (qi_ Ka.out)<|an_ (qi_ Oa.out)<|D (ql_ HB.out)
          clear Ka Oa HB;obtain ⟨Ka,Oa,HB⟩:=n_;refine q1_ (n:=20) (S:=fun w'=>w'.cell? ⟨Ua,0,none⟩=some (I L i)∧w'.cell? ⟨Ua,1,none⟩=some (I L b)∧w'.cell? ⟨Ua,2,none⟩=some (I L c)∧w'.cell? ⟨Ua,3,none⟩=some (I L d)∧w'.cell? ⟨Ua,4,none⟩=some (Y (some j) a.length l)∧w'.cell? ⟨Ma,0,none⟩=some (I L ((qb_ a Ja).f0))∧w'.cell? ⟨Ma,1,none⟩=some (I L ((qb_ a Ja).f1))∧w'.cell? ⟨Ma,2,none⟩=some (.bool ((qb_ a Ja).f2))∧w'.cell? ⟨Ma,3,none⟩=some (I L ((qb_ a Ja).f3.f0))∧w'.cell? ⟨Ma,4,none⟩=some (I L ((qb_ a Ja).f3.f1))∧w'.cell? ⟨Ma,5,none⟩=some (I L ((qb_ a Ja).f3.f2))) (ds:=[]) (bz 20 0) (by kernel_rfl) rfl (by kernel_rfl) (bk5_ Ka.out (be6_ Oa.out)) (fun hHeld=>?_);refine qn_ impl_FairOk.tab6 impl_FairOk.bits6 (fun HT_ HW_=>?_);generalize am.drew=a8 at Ka Oa HB hHeld ⊢;refine tb_ 0 rfl rfl hHeld Z85 ?_;refine tb_ 1 rfl rfl hHeld Z85 ?_;refine oa_ 2 33 20 7 HT_ (fun K hK=>?_);refine goes_ Try.func71 (by kernel_rfl) rfl #[.agg #[I L i,I L b,I L c,I L d,Y (some j) a.length l],.agg #[I L ((qb_ a Ja).f0),I L ((qb_ a Ja).f1),.bool ((qb_ a Ja).f2),I L ((qb_ a Ja).f3.f0),I L ((qb_ a Ja).f3.f1),I L ((qb_ a Ja).f3.f2)]] (by rfl) rfl rfl Z24 ?_;with_reducible refine (impl_Fair_kidOk.calls i b c d _ _ a ((qb_ a Ja).f0) ((qb_ a Ja).f1) ((qb_ a Ja).f2) ((qb_ a Ja).f3.f0) ((qb_ a Ja).f3.f1) ((qb_ a Ja).f3.f2) false _ ?side1 ?side2 aa.out).mono ?_
          (case side1=>exact pC_ (Kd.C_below B.out HB.out));(case side2=>exact an.out);rintro e a9 ⟨rfl,hb⟩;refine ⟨_,rfl,?_⟩
          have n_:=an_ (qa_ (pk_ Ka.out) hb)<|an_ (qa_ (pk_ Oa.out) hb)<|D (qd_ (pB_ HB.out) hb)
          clear Ka Oa HB;obtain ⟨Ka,Oa,HB⟩:=n_;refine hK.out _ _ (bk5_ Ka.out (be6_ Oa.out)) (fun hHeld=>?_);clear hK K;refine nx_ (N:=some 33) ?_;refine pb_ 3 ?_;refine pb_ 4 ?_;refine ob_ 5 ?_;refine ob_ 6 ?_;refine ob_ 7 ?_;refine ob_ 8 ?_;refine ob_ 9 ?_;refine ob_ 10 ?_;refine ob_ 11 ?_;refine ob_ 12 ?_;refine ob_ 13 ?_;refine ob_ 14 ?_;refine ob_ 15 ?_;refine ob_ 16 ?_;refine ob_ 17 ?_;refine ob_ 18 ?_;refine pb_ 19 ?_;refine done_ (qv_ HT_.out (by kernel_rfl)) ?_
          try go_wp2
          go_ret;exact ⟨er_,pB_ HB.out⟩
        ·rw [if_neg Z] at H
         exact absurd H (by simp)
       ·rw [if_neg X] at H
        exact absurd H (by simp)
      ·rw [if_neg E] at H
       have aM:decide (Ja < (a.length:Int))=false:=decide_eq_false E;clear E;obtain rfl:=Option.some.inj H
       go_wp2
       go_ret;exact ⟨er_,pB_ HB.out⟩
end Go.Proofs.Ytjhgkonacdimfac.PFnExactTreeServe
