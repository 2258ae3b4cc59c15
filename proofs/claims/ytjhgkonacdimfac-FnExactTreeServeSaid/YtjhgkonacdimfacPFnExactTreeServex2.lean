-- by a program of this session's, over the kit's words
import Derived.Test.YtjhgkonacdimfacPZFnExactTreeServe
import Derived.Test.YtjhgkonacdimfacPFnExactTreeServex0
import Derived.Test.YtjhgkonacdimfacPFnExactTreeServex1
namespace Go.Proofs.Ytjhgkonacdimfac.PFnExactTreeServe
open Go.RowKit Go.Proofs.YtjhgkonacdimfacW.PrintWords Go.Proofs.YtjhgkonacdimfacW.PrintLast Go.Proofs.YtjhgkonacdimfacW.PrintMore Go.Proofs.YtjhgkonacdimfacV Go.Proofs.Ytjhgkonacdimfac.ZFnExactTreeServe
open Go.Value renaming int → I, slice → Y
open Go.IntKind renaming i64 → L
open Aside0 renaming mk → D
open Option renaming bind_eq_some_iff → bs_
attribute [local go_sem] qam_ qak_ qaw_ qav_ qae_ qad_ qal_ qaj_
set_option linter.unusedVariables false
set_option linter.unusedSimpArgs false
set_option maxHeartbeats 8000000
set_option maxRecDepth 100000
mutual
def spec_FairOk.j0:Nat→Bool→Int→Int→Int→Int→List (S75)→Option (Bool)
 | 0,_,_,_,_,_,_=>none
 | k+1,l,c,d,e,g,b=>if l=true then (some false) else (spec_FairOk.l0 k 0 c d e g b)
def spec_FairOk.l0:Nat→Int→Int→Int→Int→Int→List (S75)→Option (Bool)
 | 0,_,_,_,_,_,_=>none
 | k+1,a,c,d,e,g,b=>if a < (b.length:Int) then (if 0≤a then (if ((qb_ b a).f0) < 0 then (spec_FairOk.j2 k a true c d e g b ((qb_ b a).f0) ((qb_ b a).f1) ((qb_ b a).f2) ((qb_ b a).f3.f0) ((qb_ b a).f3.f1) ((qb_ b a).f3.f2)) else (if ((qb_ b a).f0) > 9999 then (spec_FairOk.j2 k a true c d e g b ((qb_ b a).f0) ((qb_ b a).f1) ((qb_ b a).f2) ((qb_ b a).f3.f0) ((qb_ b a).f3.f1) ((qb_ b a).f3.f2)) else (if a > 0 then (if 0≤(wrap64 (a - 1)) then (if (wrap64 (a - 1)) < (b.length:Int) then (if ((qb_ b (wrap64 (a - 1))).f0) ≥ ((qb_ b a).f0) then (spec_FairOk.j2 k a true c d e g b ((qb_ b a).f0) ((qb_ b a).f1) ((qb_ b a).f2) ((qb_ b a).f3.f0) ((qb_ b a).f3.f1) ((qb_ b a).f3.f2)) else ((spec_Stride.f ((qb_ b a).f1)).bind fun m=>(if m=0 then (spec_FairOk.j2 k a true c d e g b ((qb_ b a).f0) ((qb_ b a).f1) ((qb_ b a).f2) ((qb_ b a).f3.f0) ((qb_ b a).f3.f1) ((qb_ b a).f3.f2)) else ((spec_Narrow.f ((qb_ b a).f3.f0) ((qb_ b a).f3.f1) ((qb_ b a).f3.f2) c).bind fun n=>(spec_FairOk.j2 k a (!n) c d e g b ((qb_ b a).f0) ((qb_ b a).f1) ((qb_ b a).f2) ((qb_ b a).f3.f0) ((qb_ b a).f3.f1) ((qb_ b a).f3.f2)))))) else (none)) else (none)) else ((spec_Stride.f ((qb_ b a).f1)).bind fun o=>(if o=0 then (spec_FairOk.j2 k a true c d e g b ((qb_ b a).f0) ((qb_ b a).f1) ((qb_ b a).f2) ((qb_ b a).f3.f0) ((qb_ b a).f3.f1) ((qb_ b a).f3.f2)) else ((spec_Narrow.f ((qb_ b a).f3.f0) ((qb_ b a).f3.f1) ((qb_ b a).f3.f2) c).bind fun p=>(spec_FairOk.j2 k a (!p) c d e g b ((qb_ b a).f0) ((qb_ b a).f1) ((qb_ b a).f2) ((qb_ b a).f3.f0) ((qb_ b a).f3.f1) ((qb_ b a).f3.f2)))))))) else (none)) else (some true)
def spec_FairOk.j2:Nat→Int→Bool→Int→Int→Int→Int→List (S75)→Int→Int→Bool→Int→Int→Int→Option (Bool)
 | 0,_,_,_,_,_,_,_,_,_,_,_,_,_=>none
 | k+1,a,q,c,d,e,g,b,y,r,s,h,i,j=>if q=true then (some false) else ((spec_VecTop.f h i j).bind fun t=>((spec_VecTop.f d e g).bind fun u=>((spec_Stride.f r).bind fun v=>(if t > (wrap64 (u+(wrap64 (v * 2000)))) then (some false) else (if s=true then ((spec_VecTop.f h i j).bind fun w=>((spec_VecTop.f d e g).bind fun x=>(if w < x then (some false) else (spec_FairOk.l0 k (wrap64 (a+1)) c d e g b)))) else (spec_FairOk.l0 k (wrap64 (a+1)) c d e g b))))))
end
def spec_FairOk.f (k:Nat) (d a b c:Int) (e:List (S75)):Option (Bool):=(spec_Narrow.f a b c d).bind fun g=>(if g=true then ((spec_VecTop.f a b c).bind fun h=>(if h > 100000000000 then (spec_FairOk.j0 k true d a b c e) else (spec_FairOk.j0 k (decide ((e.length:Int) > 48)) d a b c e))) else (spec_FairOk.j0 k true d a b c e))
def spec_FairOk.T7:Bool×List (List Nat×List Nat):=(true,[([],[]),([0],[0]),([1],[1]),([2],[2]),([3],[3]),([4,3],[3,4]),([5,3],[3,5]),([3,6],[3,6]),([7,3],[7]),([8],[8]),([9,8],[8,9]),([10,8,8],[8,10]),([11],[11]),([12,11],[11,12]),([11],[11]),([14,11],[11,14]),([13,15,11],[11,13,15]),([16,11],[11,16]),([17,11],[11,17]),([11],[11]),([19,11],[11,19]),([18,20,11],[11,18,20]),([11,21,8],[8,11,21]),([8,22],[8,22]),([23,11],[23]),([24],[24]),([25,24],[24,25]),([26,24,24],[24,26]),([27,24],[24,27]),([24,28],[24,28]),([29,27],[29]),([30],[30]),([31,30],[30,31]),([30],[30]),([33,30],[30,33]),([32,34,30,30],[30,32,34]),([35,30],[30,35]),([30,36],[30,36])])
def spec_FairOk.B7:List Nat:=[0,1,3,7,15,31,63,127,255,511,1023,2047,4095,8191,4095,20479,65535,131071,262143,4095,528383,2097151,4194303,8388607,16777215,33554431,67108863,134217727,268435455,536870911,1073741823,2147483647,4294967295,2147483647,10737418239,34359738367,68719476735,137438953471]
theorem spec_FairOk.tab7:rtab .any (opsOf Try.f38 7)=spec_FairOk.T7:=by kernel_rfl
theorem spec_FairOk.bits7:q3_ spec_FairOk.T7.2 spec_FairOk.B7=true:=by kernel_rfl
def spec_FairOk.T9:Bool×List (List Nat×List Nat):=(true,[([],[]),([0],[0]),([1],[1]),([],[]),([3],[3]),([4,2],[4]),([],[]),([6],[6]),([7,5],[7]),([8],[8]),([5,9],[5,9]),([2,10],[2,10]),([11,8],[11]),([12],[12]),([13,12],[12,13]),([14,12,12],[12,14]),([15],[15]),([16,15],[15,16]),([17,15,15],[15,17]),([15],[15]),([19,15],[15,19]),([20,18,15],[15,20]),([18,21,15],[15,18,21]),([15,22,12],[12,15,22]),([12,23],[12,23])])
def spec_FairOk.B9:List Nat:=[0,1,3,0,8,31,0,64,255,511,1023,2047,4095,8191,16383,32767,65535,131071,262143,65535,589823,2097151,4194303,8388607,16777215]
theorem spec_FairOk.tab9:rtab .any (opsOf Try.f38 9)=spec_FairOk.T9:=by kernel_rfl
theorem spec_FairOk.bits9:q3_ spec_FairOk.T9.2 spec_FairOk.B9=true:=by kernel_rfl
theorem spec_FairOk.calls (k:Nat) (l g i j:Int) (ai:Option Addr) (m:Nat) (a:List (S75)) (r:Bool) (w:World) (aP:Kd.C k75 w ai a.length a) (aQ:a.length≤m) (h:spec_FairOk.f k l g i j a=some r) :
  Calls Try.prog 38 #[.agg #[I L l,I L g,I L i,I L j,Y ai a.length m]] w fun e w'=>e=.returned (.bool r)∧Below w.heap.size w w':=by
 have hu34:=Try.underlying34
 have hu31:=Try.underlying31
 have hu75:=Try.underlying75
 have aq:=D aP
 have bw:=D aQ
 clear aP aQ
 have HB:=D (Below.refl w.heap.size w)
 have H:((spec_Narrow.f g i j l).bind fun Uc=>(if Uc=true then ((spec_VecTop.f g i j).bind fun Jb=>(if Jb > 100000000000 then (spec_FairOk.j0 k true l g i j a) else (spec_FairOk.j0 k (decide ((a.length:Int) > 48)) l g i j a))) else (spec_FairOk.j0 k true l g i j a)))=some r:=h
 clear h
 have aE:=D H
 clear H
 go_enter Try.func38,Try.ntmps38
 go_upto_region 1 with (first|((with_reducible refine qh_ (N:=1) rfl ?_);(try (refine q7_ (by rfl) ?_;dsimp only));refine bx_ (N:=1) (cs:=#[I L l,I L g,I L i,I L j,Y ai a.length m]) (t:=34) ?_;intro Oa hg w3 hbox hb;have n_:=an_ (qd_ (pB_ HB.out) hb)<|an_ (hbox)<|an_ (bg_ hg (pB_ HB.out):w.heap.size≤Oa)<|D (bg_ hg (pB_ HB.out):w.heap.size≤Oa);clear HB;obtain ⟨HB,Ja,Mo,Oo⟩:=n_;clear hb hbox hg))
 (try simp only [Act.put,List.setIfInBounds_toArray,List.set_cons_zero,List.set_cons_succ])
 go_cut [22] (fun bh wc=>∃ (kq:Nat) (Xb:Bool),bh=.bool Xb∧Aside0 (spec_FairOk.j0 kq Xb l g i j a=some r)∧Aside0 (kq≤k)∧Aside0 (wc.heap[Oa]?=some (.cells #[I L l,I L g,I L i,I L j,(Y ai a.length m)] 34 (0,0)))∧Aside0 (Below w.heap.size w wc))
 case first =>
  have H:=aE.out;clear aE;obtain ⟨Uc,aj,H⟩:=bs_.mp H;(try dsimp only at H);have A4:=D aj;clear aj
  by_cases c5:Uc=true
  ·subst c5
   rw [if_pos rfl] at H;obtain ⟨Jb,aR,H⟩:=bs_.mp H;(try dsimp only at H);have A6:=D aR;clear aR
   by_cases c7:Jb > 100000000000
   ·rw [if_pos c7] at H
    have ak:decide (100000000000 < Jb)=true:=decide_eq_true c7;clear c7;refine rw_ ak ?_;have H':=D H;clear H;obtain ⟨Xc,Jd,Md,Od,Ud,Xd,Je,Ke,Me,Oe⟩:=qx_ Ja.out
    go_wp2_with (first|((with_reducible refine qe_ (f:=63) rfl ?_);refine qp_ (some 9) rfl rfl Try.func63 (by kernel_rfl) rfl #[.agg #[I L g,I L i,I L j],I L l] rfl Z24 ?_;(with_reducible refine (spec_Narrow.calls g i j l true _ A4.out).mono ?_);rintro e w9 ⟨rfl,hb⟩;refine ⟨_,rfl,?_⟩;have n_:=an_ (qa_ (pk_ Ja.out) hb)<|D (qd_ (pB_ HB.out) hb);clear Ja HB;obtain ⟨Ja,HB⟩:=n_;(try clear hb);obtain ⟨Ue,Xe,Jf,Kf,Mf,Of,Uf,Xf,Jg,Kg⟩:=qx_ Ja.out)|(go_at_call 44;(with_reducible refine (spec_VecTop.calls g i j Jb _ A6.out).mono ?_);rintro e bB ⟨rfl,hb⟩;have n_:=an_ (qa_ (pk_ Ja.out) hb)<|D (qd_ (pB_ HB.out) hb);clear Ja HB;obtain ⟨Ja,HB⟩:=n_;(try clear hb)))
    go_meet
    case rel=>exact ⟨_,(true),Z92,H',⟨by first | omega | exact Nat.le_refl _⟩,⟨pk_ Ja.out⟩,⟨pB_ HB.out⟩⟩
   ·rw [if_neg c7] at H
    have ak:decide (100000000000 < Jb)=false:=decide_eq_false c7;clear c7;refine rw_ ak ?_;have H':=D H;clear H;obtain ⟨Mg,Og,Ug,Xg,Jh,Kh,Mh,Oh,Uh,Xh⟩:=qx_ Ja.out
    go_wp2_with (first|((with_reducible refine qe_ (f:=63) rfl ?_);refine qp_ (some 9) rfl rfl Try.func63 (by kernel_rfl) rfl #[.agg #[I L g,I L i,I L j],I L l] rfl Z24 ?_;(with_reducible refine (spec_Narrow.calls g i j l true _ A4.out).mono ?_);rintro e bC ⟨rfl,hb⟩;refine ⟨_,rfl,?_⟩;have n_:=an_ (qa_ (pk_ Ja.out) hb)<|D (qd_ (pB_ HB.out) hb);clear Ja HB;obtain ⟨Ja,HB⟩:=n_;(try clear hb);obtain ⟨Ji,Ki,Mi,Oi,Ui,Xi,Jj,Kj,Mj,Oj⟩:=qx_ Ja.out)|(go_at_call 44;(with_reducible refine (spec_VecTop.calls g i j Jb _ A6.out).mono ?_);rintro e bD ⟨rfl,hb⟩;have n_:=an_ (qa_ (pk_ Ja.out) hb)<|D (qd_ (pB_ HB.out) hb);clear Ja HB;obtain ⟨Ja,HB⟩:=n_;(try clear hb);obtain ⟨Uj,Xj,Jk,Kk,Mk,Ok,Uk,Xk,Jm,Km⟩:=qx_ Ja.out))
    go_meet
    case rel=>exact ⟨_,(decide ((a.length:Int) > 48)),Z92,H',⟨by first | omega | exact Nat.le_refl _⟩,⟨pk_ Ja.out⟩,⟨pB_ HB.out⟩⟩
  ·replace c5:=Bool.eq_false_iff.mpr c5
   subst c5;rw [if_neg (show ¬ (false=true) by decide)] at H;have H':=D H;clear H;obtain ⟨Mm,Om,Um,Xm,Jn,Kn,Mn,On,Un,Xn⟩:=qx_ Ja.out
   go_wp2_with (first|((with_reducible refine qe_ (f:=63) rfl ?_);refine qp_ (some 9) rfl rfl Try.func63 (by kernel_rfl) rfl #[.agg #[I L g,I L i,I L j],I L l] rfl Z24 ?_;(with_reducible refine (spec_Narrow.calls g i j l false _ A4.out).mono ?_);rintro e bE ⟨rfl,hb⟩;refine ⟨_,rfl,?_⟩;have n_:=an_ (qa_ (pk_ Ja.out) hb)<|D (qd_ (pB_ HB.out) hb);clear Ja HB;obtain ⟨Ja,HB⟩:=n_;(try clear hb)))
   go_meet
   case rel=>exact ⟨_,(true),Z92,H',⟨by first | omega | exact Nat.le_refl _⟩,⟨pk_ Ja.out⟩,⟨pB_ HB.out⟩⟩
 case rest =>
  clear aE
  (try clear p2);(try clear c3);(try clear c5);(try clear c6);(try clear c7);(try clear ak);(try clear Ue Xe Jf Kf Mf Of Uf Xf Jg Kg);(try clear Mg Og Ug Xg Jh Kh Mh Oh Uh Xh);(try clear Ji Ki Mi Oi Ui Xi Jj Kj Mj Oj);(try clear Uj Xj Jk Kk Mk Ok Uk Xk Jm Km);(try clear Mm Om Um Xm Jn Kn Mn On Un Xn);(try clear Xc Jd Md Od Ud Xd Je Ke Me Oe)
  obtain ⟨kq,Xb,rfl,HA,E,Ja,HB⟩:=hcut
  cases kq with
  | zero=>exact absurd HA.out (by simp [spec_FairOk.j0])
  | succ kj1 =>
   have H:=HA.out;clear HA;simp only [spec_FairOk.j0] at H
   by_cases al:Xb=true
   ·subst al
    rw [if_pos rfl] at H;obtain rfl:=Option.some.inj H
    go_wp2
    go_ret;exact ⟨er_,pB_ HB.out⟩
   ·replace al:=Bool.eq_false_iff.mpr al
    subst al;rw [if_neg (show ¬ (false=true) by decide)] at H;have H':=D H;clear H
    go_wp2
    go_loopg [3] kj1 (fun kq v3 w'=>∃ (b:Int),v3=I L b∧Aside0 (spec_FairOk.l0 kq b l g i j a=some r)∧Aside0 (kq≤kj1)∧Aside0 (w'.heap[Oa]?=some (.cells #[I L l,I L g,I L i,I L j,(Y ai a.length m)] 34 (0,0)))∧Aside0 (Below w.heap.size w w'))
    case atStart=>exact ⟨(0),Z92,H',⟨Nat.le_refl _⟩,⟨pk_ Ja.out⟩,⟨pB_ HB.out⟩⟩
    case round =>
     clear H'
     (try clear c1);(try clear p2);(try clear c3);(try clear c5);(try clear c6);(try clear c7);(try clear ak);(try clear al);(try clear Ue Xe Jf Kf Mf Of Uf Xf Jg Kg);(try clear Mg Og Ug Xg Jh Kh Mh Oh Uh Xh);(try clear Ji Ki Mi Oi Ui Xi Jj Kj Mj Oj);(try clear Uj Xj Jk Kk Mk Ok Uk Xk Jm Km);(try clear Mm Om Um Xm Jn Kn Mn On Un Xn);(try clear Xc Jd Md Od Ud Xd Je Ke Me Oe);(try clear p2)
     obtain ⟨b,rfl,HA,G,Ja,HB⟩:=hrel
     cases gk with
     | zero=>exact absurd HA.out (by simp [spec_FairOk.l0])
     | succ k2 =>
      have H:=HA.out;clear HA;simp only [spec_FairOk.l0] at H
      by_cases ad:b < (a.length:Int)
      ·rw [if_pos ad] at H
       have bj:decide (b < (a.length:Int))=true:=decide_eq_true ad;clear ad
       by_cases au:0≤b
       ·rw [if_pos au] at H
        have bG:decide (0≤b)=true:=decide_eq_true au;clear au;have aH:=D H;clear H;obtain ⟨Uo,Xo,Jp,Kp,Mp,Op,Up,Xp,Jq,Kq⟩:=qx_ Ja.out;have aI:0≤(b:Int):=od_ Z91;have aJ:b < (a.length:Int):=od_ Z91;obtain ⟨d,bk,aT,aU,aV,aW,aX,aY⟩:=qac_ aq.out b aI aJ;cases bk;replace aT:=rc_ HB.out aT;replace aU:=rc_ HB.out aU;replace aV:=rc_ HB.out aV;replace aW:=rc_ HB.out aW;replace aX:=rc_ HB.out aX;replace aY:=rc_ HB.out aY;replace aI:=eq_true aI;replace aJ:=eq_true aJ
        go_upto_region 7 with (first|((with_reducible refine qh_ (N:=4) rfl ?_);(try (refine q7_ (by rfl) ?_;dsimp only));refine bx_ (N:=4) (cs:=#[I L 0,I L 0,.bool false,I L 0,I L 0,I L 0]) (t:=75) ?_;intro Ma hg Z hbox hb;have n_:=an_ (qa_ (pk_ Ja.out) hb)<|an_ (qd_ (pB_ HB.out) hb)<|an_ (hbox)<|an_ (bg_ hg (pB_ HB.out):w.heap.size≤Ma)<|an_ (bg_ hg (pB_ HB.out):w.heap.size≤Ma)<|an_ (nl_ hg (pk_ Ja.out):Oa≠Ma)<|D (by rw [hg];exact Nat.ne_of_gt (qt_ (pk_ Ja.out)):Ma≠Oa);clear Ja HB;obtain ⟨Ja,HB,Ka,Mq,Oq,Ua,Ko⟩:=n_;clear hb hbox hg;(try have:=Ko.out);(try have:=Ua.out);obtain ⟨Uq,Xq,Jr,Kr,Mr,Or,Ur,Xr,Js,Ks,Ms,Os⟩:=qm_ Ka.out))
        (try simp only [Act.put,List.setIfInBounds_toArray,List.set_cons_zero,List.set_cons_succ])
        go_cut [72] (fun bl wc=>∃ (kq:Nat) (Jc:Bool),bl=.bool Jc∧Aside0 (spec_FairOk.j2 kq b Jc l g i j a ((qb_ a b).f0) ((qb_ a b).f1) ((qb_ a b).f2) ((qb_ a b).f3.f0) ((qb_ a b).f3.f1) ((qb_ a b).f3.f2)=some r)∧Aside0 (kq≤k2)∧Aside0 (wc.heap[Oa]?=some (.cells #[I L l,I L g,I L i,I L j,(Y (some d) a.length m)] 34 (0,0)))∧Aside0 (wc.heap[Ma]?=some (.cells #[I L ((qb_ a b).f0),I L ((qb_ a b).f1),.bool ((qb_ a b).f2),I L ((qb_ a b).f3.f0),I L ((qb_ a b).f3.f1),I L ((qb_ a b).f3.f2)] 75 (0,0)))∧Aside0 (Below w.heap.size w wc))
        case first =>
         have H:=aH.out;clear aH
         by_cases ae:((qb_ a b).f0) < 0
         ·rw [if_pos ae] at H
          have aK:decide (((qb_ a b).f0) < 0)=true:=decide_eq_true ae;clear ae;refine rw_ aK ?_;have H':=D H;clear H
          try go_wp2
          obtain ⟨av,hq_⟩:∃ W_,W_=((((((Z.setCell ⟨Ma,0,none⟩ (I L ((qb_ a b).f0))).setCell ⟨Ma,1,none⟩ (I L ((qb_ a b).f1))).setCell ⟨Ma,2,none⟩ (.bool ((qb_ a b).f2))).setCell ⟨Ma,3,none⟩ (I L ((qb_ a b).f3.f0))).setCell ⟨Ma,4,none⟩ (I L ((qb_ a b).f3.f1))).setCell ⟨Ma,5,none⟩ (I L ((qb_ a b).f3.f2))):=⟨_,rfl⟩;have o:Aside0 (av.heap[Oa]?=some (.cells #[I L l,I L g,I L i,I L j,Y (some d) a.length m] 34 (0,0))):=⟨by rw [hq_];exact pP_ Ja.out⟩;have p:Aside0 (av.heap[Ma]?=some (.cells #[I L ((qb_ a b).f0),I L ((qb_ a b).f1),.bool ((qb_ a b).f2),I L ((qb_ a b).f3.f0),I L ((qb_ a b).f3.f1),I L ((qb_ a b).f3.f2)] 75 (0,0))):=⟨by rw [hq_];exact pP_ Ka.out⟩;have q:Aside0 (Below w.heap.size w av):=⟨by rw [hq_];exact pB_ HB.out⟩;(try clear Ja);(try clear Ka);(try clear HB);(try rw [←hq_]);clear hq_;have Ja:=o;have Ka:=p;have HB:=q;clear o p q
          have n_:=an_ (qi_ Ja.out)<|an_ (qi_ Ka.out)<|D (ql_ HB.out)
          clear Ja Ka HB;obtain ⟨Ja,Ka,HB⟩:=n_;refine q1_ (n:=38) (S:=fun w'=>w'.cell? ⟨Ma,0,none⟩=some (I L ((qb_ a b).f0))∧w'.cell? ⟨Ma,1,none⟩=some (I L ((qb_ a b).f1))∧w'.cell? ⟨Ma,2,none⟩=some (.bool ((qb_ a b).f2))∧w'.cell? ⟨Ma,3,none⟩=some (I L ((qb_ a b).f3.f0))∧w'.cell? ⟨Ma,4,none⟩=some (I L ((qb_ a b).f3.f1))∧w'.cell? ⟨Ma,5,none⟩=some (I L ((qb_ a b).f3.f2))) (ds:=[]) (bz 38 0) (by kernel_rfl) rfl (by kernel_rfl) (be6_ Ka.out) (fun hHeld=>?_);refine qn_ spec_FairOk.tab7 spec_FairOk.bits7 (fun HT_ HW_=>?_);generalize av.drew=bH at Ja Ka HB hHeld ⊢;refine pb_ 0 ?_;refine tb_ 1 rfl rfl hHeld Z87 ?_;refine pb_ 2 ?_;refine pb_ 3 ?_;refine ob_ 4 ?_;refine ob_ 5 ?_;refine ob_ 6 ?_;refine pb_ 7 ?_;refine pb_ 8 ?_;refine ob_ 9 ?_;refine ob_ 10 ?_;refine ob_ 11 ?_;refine ob_ 12 ?_;refine ob_ 13 ?_;refine ob_ 14 ?_;refine ob_ 15 ?_;refine ob_ 16 ?_;refine ob_ 17 ?_;refine ob_ 18 ?_;refine ob_ 19 ?_;refine ob_ 20 ?_;refine ob_ 21 ?_;refine ob_ 22 ?_;refine pb_ 23 ?_;refine pb_ 24 ?_;refine ob_ 25 ?_;refine ob_ 26 ?_;refine ob_ 27 ?_;refine ob_ 28 ?_;refine pb_ 29 ?_;refine pb_ 30 ?_;refine ob_ 31 ?_;refine ob_ 32 ?_;refine ob_ 33 ?_;refine ob_ 34 ?_;refine ob_ 35 ?_
          refine ob_ 36 ?_;refine pb_ 37 ?_;refine done_ (qv_ HT_.out (by kernel_rfl)) ?_
          try go_wp2
          go_meet
          case rel=>exact ⟨_,(true),Z92,H',⟨by have:=E.out;have:=G.out;first | omega | exact Nat.le_refl _⟩,⟨pk_ Ja.out⟩,⟨pk_ Ka.out⟩,⟨pB_ HB.out⟩⟩
         ·rw [if_neg ae] at H
          have aK:decide (((qb_ a b).f0) < 0)=false:=decide_eq_false ae;clear ae;refine rw_ aK ?_
          by_cases aa:((qb_ a b).f0) > 9999
          ·rw [if_pos aa] at H
           have aZ:decide (9999 < ((qb_ a b).f0))=true:=decide_eq_true aa;clear aa;have H':=D H;clear H
           try go_wp2
           obtain ⟨aw,hq_⟩:∃ W_,W_=((((((Z.setCell ⟨Ma,0,none⟩ (I L ((qb_ a b).f0))).setCell ⟨Ma,1,none⟩ (I L ((qb_ a b).f1))).setCell ⟨Ma,2,none⟩ (.bool ((qb_ a b).f2))).setCell ⟨Ma,3,none⟩ (I L ((qb_ a b).f3.f0))).setCell ⟨Ma,4,none⟩ (I L ((qb_ a b).f3.f1))).setCell ⟨Ma,5,none⟩ (I L ((qb_ a b).f3.f2))):=⟨_,rfl⟩;have o:Aside0 (aw.heap[Oa]?=some (.cells #[I L l,I L g,I L i,I L j,Y (some d) a.length m] 34 (0,0))):=⟨by rw [hq_];exact pP_ Ja.out⟩;have p:Aside0 (aw.heap[Ma]?=some (.cells #[I L ((qb_ a b).f0),I L ((qb_ a b).f1),.bool ((qb_ a b).f2),I L ((qb_ a b).f3.f0),I L ((qb_ a b).f3.f1),I L ((qb_ a b).f3.f2)] 75 (0,0))):=⟨by rw [hq_];exact pP_ Ka.out⟩;have q:Aside0 (Below w.heap.size w aw):=⟨by rw [hq_];exact pB_ HB.out⟩;(try clear Ja);(try clear Ka);(try clear HB);(try rw [←hq_]);clear hq_;have Ja:=o;have Ka:=p;have HB:=q;clear o p q
           have n_:=an_ (qi_ Ja.out)<|an_ (qi_ Ka.out)<|D (ql_ HB.out)
           clear Ja Ka HB;obtain ⟨Ja,Ka,HB⟩:=n_;refine q1_ (n:=38) (S:=fun w'=>w'.cell? ⟨Ma,0,none⟩=some (I L ((qb_ a b).f0))∧w'.cell? ⟨Ma,1,none⟩=some (I L ((qb_ a b).f1))∧w'.cell? ⟨Ma,2,none⟩=some (.bool ((qb_ a b).f2))∧w'.cell? ⟨Ma,3,none⟩=some (I L ((qb_ a b).f3.f0))∧w'.cell? ⟨Ma,4,none⟩=some (I L ((qb_ a b).f3.f1))∧w'.cell? ⟨Ma,5,none⟩=some (I L ((qb_ a b).f3.f2))) (ds:=[]) (bz 38 0) (by kernel_rfl) rfl (by kernel_rfl) (be6_ Ka.out) (fun hHeld=>?_);refine qn_ spec_FairOk.tab7 spec_FairOk.bits7 (fun HT_ HW_=>?_);generalize aw.drew=bI at Ja Ka HB hHeld ⊢;refine pb_ 0 ?_;refine tb_ 1 rfl rfl hHeld Z87 ?_;refine pb_ 2 ?_;refine pb_ 3 ?_;refine pb_ 4 ?_;refine tb_ 5 rfl rfl hHeld Z87 ?_;refine pb_ 6 ?_;refine pb_ 7 ?_;refine pb_ 8 ?_;refine ob_ 9 ?_;refine ob_ 10 ?_;refine ob_ 11 ?_;refine ob_ 12 ?_;refine ob_ 13 ?_;refine ob_ 14 ?_;refine ob_ 15 ?_;refine ob_ 16 ?_;refine ob_ 17 ?_;refine ob_ 18 ?_;refine ob_ 19 ?_;refine ob_ 20 ?_;refine ob_ 21 ?_;refine ob_ 22 ?_;refine pb_ 23 ?_;refine pb_ 24 ?_;refine ob_ 25 ?_;refine ob_ 26 ?_;refine ob_ 27 ?_;refine ob_ 28 ?_;refine pb_ 29 ?_;refine pb_ 30 ?_;refine ob_ 31 ?_;refine ob_ 32 ?_;refine ob_ 33 ?_;refine ob_ 34 ?_
           refine ob_ 35 ?_;refine ob_ 36 ?_;refine pb_ 37 ?_;refine done_ (qv_ HT_.out (by kernel_rfl)) ?_
           try go_wp2
           go_meet
           case rel=>exact ⟨_,(true),Z92,H',⟨by have:=E.out;have:=G.out;first | omega | exact Nat.le_refl _⟩,⟨pk_ Ja.out⟩,⟨pk_ Ka.out⟩,⟨pB_ HB.out⟩⟩
          ·rw [if_neg aa] at H
           have aZ:decide (9999 < ((qb_ a b).f0))=false:=decide_eq_false aa;clear aa
           by_cases ab:b > 0
           ·rw [if_pos ab] at H
            have a0:decide (0 < b)=true:=decide_eq_true ab;clear ab;obtain ⟨c,hji34⟩:∃ j_:Int,(wrap64 (b - 1))=j_:=⟨_,rfl⟩
            replace H:(if 0≤(c) then (if (c) < (a.length:Int) then (if ((qb_ a (c)).f0) ≥ ((qb_ a b).f0) then (spec_FairOk.j2 k2 b true l g i j a ((qb_ a b).f0) ((qb_ a b).f1) ((qb_ a b).f2) ((qb_ a b).f3.f0) ((qb_ a b).f3.f1) ((qb_ a b).f3.f2)) else ((spec_Stride.f ((qb_ a b).f1)).bind fun Xa=>(if Xa=0 then (spec_FairOk.j2 k2 b true l g i j a ((qb_ a b).f0) ((qb_ a b).f1) ((qb_ a b).f2) ((qb_ a b).f3.f0) ((qb_ a b).f3.f1) ((qb_ a b).f3.f2)) else ((spec_Narrow.f ((qb_ a b).f3.f0) ((qb_ a b).f3.f1) ((qb_ a b).f3.f2) l).bind fun Kc=>(spec_FairOk.j2 k2 b (!Kc) l g i j a ((qb_ a b).f0) ((qb_ a b).f1) ((qb_ a b).f2) ((qb_ a b).f3.f0) ((qb_ a b).f3.f1) ((qb_ a b).f3.f2)))))) else (none)) else (none))=some r:=by first|(rw [hji34] at H;exact H)|(simp only [hji34] at H ⊢;exact H)
            have hji34w:(IntKind.i64.wrap (b - 1))=c:=(i64_w _).trans hji34
            by_cases am:0≤(c)
            ·rw [if_pos am] at H
             have bm:decide (0≤(c))=true:=decide_eq_true am;clear am
             by_cases an:(c) < (a.length:Int)
             ·rw [if_pos an] at H
              have bn:decide ((c) < (a.length:Int))=true:=decide_eq_true an;clear an
              by_cases ac:((qb_ a (c)).f0) ≥ ((qb_ a b).f0)
              ·rw [if_pos ac] at H
               have a1:decide (((qb_ a b).f0)≤((qb_ a (c)).f0))=true:=decide_eq_true ac;clear ac;have H':=D H;clear H
               try go_wp2
               obtain ⟨ax,hq_⟩:∃ W_,W_=((((((Z.setCell ⟨Ma,0,none⟩ (I L ((qb_ a b).f0))).setCell ⟨Ma,1,none⟩ (I L ((qb_ a b).f1))).setCell ⟨Ma,2,none⟩ (.bool ((qb_ a b).f2))).setCell ⟨Ma,3,none⟩ (I L ((qb_ a b).f3.f0))).setCell ⟨Ma,4,none⟩ (I L ((qb_ a b).f3.f1))).setCell ⟨Ma,5,none⟩ (I L ((qb_ a b).f3.f2))):=⟨_,rfl⟩;have o:Aside0 (ax.heap[Oa]?=some (.cells #[I L l,I L g,I L i,I L j,Y (some d) a.length m] 34 (0,0))):=⟨by rw [hq_];exact pP_ Ja.out⟩;have p:Aside0 (ax.heap[Ma]?=some (.cells #[I L ((qb_ a b).f0),I L ((qb_ a b).f1),.bool ((qb_ a b).f2),I L ((qb_ a b).f3.f0),I L ((qb_ a b).f3.f1),I L ((qb_ a b).f3.f2)] 75 (0,0))):=⟨by rw [hq_];exact pP_ Ka.out⟩;have q:Aside0 (Below w.heap.size w ax):=⟨by rw [hq_];exact pB_ HB.out⟩;(try clear Ja);(try clear Ka);(try clear HB);(try rw [←hq_]);clear hq_;have Ja:=o;have Ka:=p;have HB:=q;clear o p q
               have n_:=an_ (qi_ Ja.out)<|an_ (qi_ Ka.out)<|D (ql_ HB.out)
               clear Ja Ka HB;obtain ⟨Ja,Ka,HB⟩:=n_;have A:0≤((c):Int):=od_ Z91;have B:(c) < (a.length:Int):=od_ Z91;obtain ⟨ao,ap,s,u,v,x,y,z⟩:=qac_ aq.out (c) A B;have J:=z;have M:=y;have O:=x;have P:=v;have T:=u;have U:=s;obtain rfl:d=ao:=(by injection ap);replace s:=rc_ HB.out s;replace u:=rc_ HB.out u;replace v:=rc_ HB.out v;replace x:=rc_ HB.out x;replace y:=rc_ HB.out y;replace z:=rc_ HB.out z;replace A:=eq_true A;replace B:=eq_true B;refine q1_ (n:=38) (S:=fun w'=>w'.cell? ⟨Ma,0,none⟩=some (I L ((qb_ a b).f0))∧w'.cell? ⟨Ma,1,none⟩=some (I L ((qb_ a b).f1))∧w'.cell? ⟨Ma,2,none⟩=some (.bool ((qb_ a b).f2))∧w'.cell? ⟨Ma,3,none⟩=some (I L ((qb_ a b).f3.f0))∧w'.cell? ⟨Ma,4,none⟩=some (I L ((qb_ a b).f3.f1))∧w'.cell? ⟨Ma,5,none⟩=some (I L ((qb_ a b).f3.f2))∧w'.cell? ⟨Oa,0,none⟩=some (I L l)∧w'.cell? ⟨Oa,1,none⟩=some (I L g)∧w'.cell? ⟨Oa,2,none⟩=some (I L i)∧w'.cell? ⟨Oa,3,none⟩=some (I L j)∧w'.cell? ⟨Oa,4,none⟩=some (Y (some d) a.length m)∧w'.cell? (d.add (((c)).toNat * 6))=some (I L ((qb_ a (c)).f0))∧w'.cell? ⟨(d.add (((c)).toNat * 6)).block,(d.add (((c)).toNat * 6)).off+1,none⟩=some (I L ((qb_ a (c)).f1))∧w'.cell? ⟨(d.add (((c)).toNat * 6)).block,(d.add (((c)).toNat * 6)).off+2,none⟩=some (.bool ((qb_ a (c)).f2))∧w'.cell? ⟨(d.add (((c)).toNat * 6)).block,(d.add (((c)).toNat * 6)).off+3,none⟩=some (I L ((qb_ a (c)).f3.f0))∧w'.cell? ⟨(d.add (((c)).toNat * 6)).block,(d.add (((c)).toNat * 6)).off+4,none⟩=some (I L ((qb_ a (c)).f3.f1))∧w'.cell? ⟨(d.add (((c)).toNat * 6)).block,(d.add (((c)).toNat * 6)).off+5,none⟩=some (I L ((qb_ a (c)).f3.f2))) (ds:=[]) (bz 38 0) (by kernel_rfl) rfl (by kernel_rfl) (bk6_ Ka.out (bk5_ Ja.out (re6_ HB.out U T P O M J))) (fun hHeld=>?_);refine qn_ spec_FairOk.tab7 spec_FairOk.bits7 (fun HT_ HW_=>?_);generalize ax.drew=bJ at Ja Ka HB s u v x y z hHeld ⊢;refine pb_ 0 ?_;refine tb_ 1 rfl rfl hHeld Z39 ?_;refine pb_ 2 ?_;refine pb_ 3 ?_;refine pb_ 4 ?_
               refine tb_ 5 rfl rfl hHeld Z39 ?_;refine pb_ 6 ?_;refine pb_ 7 ?_;refine pb_ 8 ?_;refine pb_ 9 ?_;refine pb_ 10 ?_;refine pb_ 11 ?_;refine pb_ 12 ?_;refine pb_ 14 ?_;refine pb_ 15 ?_;refine pb_ 19 ?_;refine tb_ 13 rfl rfl hHeld Z39 ?_;refine pb_ 16 ?_;refine pb_ 17 ?_;refine tb_ 18 rfl rfl hHeld Z39 ?_;refine tb_ 20 rfl rfl hHeld Z39 ?_;refine pb_ 21 ?_;refine pb_ 22 ?_;refine pb_ 23 ?_;refine pb_ 24 ?_;refine ob_ 25 ?_;refine ob_ 26 ?_;refine ob_ 27 ?_;refine ob_ 28 ?_;refine pb_ 29 ?_;refine pb_ 30 ?_;refine ob_ 31 ?_;refine ob_ 32 ?_;refine ob_ 33 ?_;refine ob_ 34 ?_;refine ob_ 35 ?_;refine ob_ 36 ?_;refine pb_ 37 ?_;refine done_ (qv_ HT_.out (by kernel_rfl)) ?_
               try go_wp2
               go_meet
               case rel=>exact ⟨_,(true),Z92,H',⟨by have:=E.out;have:=G.out;first | omega | exact Nat.le_refl _⟩,⟨pk_ Ja.out⟩,⟨pk_ Ka.out⟩,⟨pB_ HB.out⟩⟩
              ·rw [if_neg ac] at H
               have a1:decide (((qb_ a b).f0)≤((qb_ a (c)).f0))=false:=decide_eq_false ac;clear ac;obtain ⟨Xa,a2,H⟩:=bs_.mp H;(try dsimp only at H);have aj:=D a2;clear a2
               by_cases W:Xa=0
               ·rw [if_pos W] at H
                have a3:(Xa == 0)=true:=beq_iff_eq.mpr W;have a4:(Xa != 0)=false:=bne_eq_false_iff_eq.mpr W;clear W;have H':=D H;clear H
                try go_wp2
                obtain ⟨ay,hq_⟩:∃ W_,W_=((((((Z.setCell ⟨Ma,0,none⟩ (I L ((qb_ a b).f0))).setCell ⟨Ma,1,none⟩ (I L ((qb_ a b).f1))).setCell ⟨Ma,2,none⟩ (.bool ((qb_ a b).f2))).setCell ⟨Ma,3,none⟩ (I L ((qb_ a b).f3.f0))).setCell ⟨Ma,4,none⟩ (I L ((qb_ a b).f3.f1))).setCell ⟨Ma,5,none⟩ (I L ((qb_ a b).f3.f2))):=⟨_,rfl⟩;have o:Aside0 (ay.heap[Oa]?=some (.cells #[I L l,I L g,I L i,I L j,Y (some d) a.length m] 34 (0,0))):=⟨by rw [hq_];exact pP_ Ja.out⟩;have p:Aside0 (ay.heap[Ma]?=some (.cells #[I L ((qb_ a b).f0),I L ((qb_ a b).f1),.bool ((qb_ a b).f2),I L ((qb_ a b).f3.f0),I L ((qb_ a b).f3.f1),I L ((qb_ a b).f3.f2)] 75 (0,0))):=⟨by rw [hq_];exact pP_ Ka.out⟩;have q:Aside0 (Below w.heap.size w ay):=⟨by rw [hq_];exact pB_ HB.out⟩;(try clear Ja);(try clear Ka);(try clear HB);(try rw [←hq_]);clear hq_;have Ja:=o;have Ka:=p;have HB:=q;clear o p q
                have n_:=an_ (qi_ Ja.out)<|an_ (qi_ Ka.out)<|D (ql_ HB.out)
                clear Ja Ka HB;obtain ⟨Ja,Ka,HB⟩:=n_;have A:0≤((c):Int):=od_ Z91;have B:(c) < (a.length:Int):=od_ Z91;obtain ⟨ao,ap,s,u,v,x,y,z⟩:=qac_ aq.out (c) A B;have J:=z;have M:=y;have O:=x;have P:=v;have T:=u;have U:=s;obtain rfl:d=ao:=(by injection ap);replace s:=rc_ HB.out s;replace u:=rc_ HB.out u;replace v:=rc_ HB.out v;replace x:=rc_ HB.out x;replace y:=rc_ HB.out y;replace z:=rc_ HB.out z;replace A:=eq_true A;replace B:=eq_true B;refine q1_ (n:=38) (S:=fun w'=>w'.cell? ⟨Ma,0,none⟩=some (I L ((qb_ a b).f0))∧w'.cell? ⟨Ma,1,none⟩=some (I L ((qb_ a b).f1))∧w'.cell? ⟨Ma,2,none⟩=some (.bool ((qb_ a b).f2))∧w'.cell? ⟨Ma,3,none⟩=some (I L ((qb_ a b).f3.f0))∧w'.cell? ⟨Ma,4,none⟩=some (I L ((qb_ a b).f3.f1))∧w'.cell? ⟨Ma,5,none⟩=some (I L ((qb_ a b).f3.f2))∧w'.cell? ⟨Oa,0,none⟩=some (I L l)∧w'.cell? ⟨Oa,1,none⟩=some (I L g)∧w'.cell? ⟨Oa,2,none⟩=some (I L i)∧w'.cell? ⟨Oa,3,none⟩=some (I L j)∧w'.cell? ⟨Oa,4,none⟩=some (Y (some d) a.length m)∧w'.cell? (d.add (((c)).toNat * 6))=some (I L ((qb_ a (c)).f0))∧w'.cell? ⟨(d.add (((c)).toNat * 6)).block,(d.add (((c)).toNat * 6)).off+1,none⟩=some (I L ((qb_ a (c)).f1))∧w'.cell? ⟨(d.add (((c)).toNat * 6)).block,(d.add (((c)).toNat * 6)).off+2,none⟩=some (.bool ((qb_ a (c)).f2))∧w'.cell? ⟨(d.add (((c)).toNat * 6)).block,(d.add (((c)).toNat * 6)).off+3,none⟩=some (I L ((qb_ a (c)).f3.f0))∧w'.cell? ⟨(d.add (((c)).toNat * 6)).block,(d.add (((c)).toNat * 6)).off+4,none⟩=some (I L ((qb_ a (c)).f3.f1))∧w'.cell? ⟨(d.add (((c)).toNat * 6)).block,(d.add (((c)).toNat * 6)).off+5,none⟩=some (I L ((qb_ a (c)).f3.f2))) (ds:=[]) (bz 38 0) (by kernel_rfl) rfl (by kernel_rfl) (bk6_ Ka.out (bk5_ Ja.out (re6_ HB.out U T P O M J))) (fun hHeld=>?_);refine qn_ spec_FairOk.tab7 spec_FairOk.bits7 (fun HT_ HW_=>?_);generalize ay.drew=bK at Ja Ka HB s u v x y z hHeld ⊢;refine pb_ 0 ?_;refine tb_ 1 rfl rfl hHeld Z39 ?_;refine pb_ 2 ?_;refine pb_ 3 ?_;refine pb_ 4 ?_
                refine tb_ 5 rfl rfl hHeld Z39 ?_;refine pb_ 6 ?_;refine pb_ 7 ?_;refine pb_ 8 ?_;refine pb_ 9 ?_;refine pb_ 10 ?_;refine pb_ 11 ?_;refine pb_ 12 ?_;refine pb_ 14 ?_;refine pb_ 15 ?_;refine pb_ 19 ?_;refine tb_ 13 rfl rfl hHeld Z39 ?_;refine pb_ 16 ?_;refine pb_ 17 ?_;refine tb_ 18 rfl rfl hHeld Z39 ?_;refine tb_ 20 rfl rfl hHeld Z39 ?_;refine pb_ 21 ?_;refine pb_ 22 ?_;refine pb_ 23 ?_;refine pb_ 24 ?_;refine pb_ 25 ?_;refine tb_ 26 rfl rfl hHeld Z39 ?_;refine oa_ 27 62 38 268435455 HT_ (fun K hK=>?_);refine goes_ Try.func64 (by kernel_rfl) rfl #[I L ((qb_ a b).f1)] (by rfl) rfl rfl Z24 ?_;with_reducible refine (spec_Stride.calls ((qb_ a b).f1) Xa _ aj.out).mono ?_
                rintro e w' ⟨rfl,⟨nd,rfl⟩⟩;refine ⟨_,rfl,?_⟩;refine hK.out _ _ (bk6_ Ka.out (bk5_ Ja.out (re6_ HB.out U T P O M J))) (fun hHeld=>?_);clear hK K;refine nx_ (N:=some 62) ?_;refine pb_ 28 ?_;refine pb_ 29 ?_;refine pb_ 30 ?_;refine ob_ 31 ?_;refine ob_ 32 ?_;refine ob_ 33 ?_;refine ob_ 34 ?_;refine ob_ 35 ?_;refine ob_ 36 ?_;refine pb_ 37 ?_;refine done_ (qv_ HT_.out (by kernel_rfl)) ?_
                try go_wp2
                go_meet
                case rel=>exact ⟨_,(true),Z92,H',⟨by have:=E.out;have:=G.out;first | omega | exact Nat.le_refl _⟩,⟨pk_ Ja.out⟩,⟨pk_ Ka.out⟩,⟨pB_ HB.out⟩⟩
               ·rw [if_neg W] at H
                have a3:(Xa == 0)=false:=beq_eq_false_iff_ne.mpr W;have a4:(Xa != 0)=true:=bne_iff_ne.mpr W;obtain ⟨Kc,a5,H⟩:=bs_.mp H;(try dsimp only at H);have bo:=D a5;clear a5;have H':=D H;clear H
                try go_wp2
                obtain ⟨az,hq_⟩:∃ W_,W_=((((((Z.setCell ⟨Ma,0,none⟩ (I L ((qb_ a b).f0))).setCell ⟨Ma,1,none⟩ (I L ((qb_ a b).f1))).setCell ⟨Ma,2,none⟩ (.bool ((qb_ a b).f2))).setCell ⟨Ma,3,none⟩ (I L ((qb_ a b).f3.f0))).setCell ⟨Ma,4,none⟩ (I L ((qb_ a b).f3.f1))).setCell ⟨Ma,5,none⟩ (I L ((qb_ a b).f3.f2))):=⟨_,rfl⟩;have o:Aside0 (az.heap[Oa]?=some (.cells #[I L l,I L g,I L i,I L j,Y (some d) a.length m] 34 (0,0))):=⟨by rw [hq_];exact pP_ Ja.out⟩;have p:Aside0 (az.heap[Ma]?=some (.cells #[I L ((qb_ a b).f0),I L ((qb_ a b).f1),.bool ((qb_ a b).f2),I L ((qb_ a b).f3.f0),I L ((qb_ a b).f3.f1),I L ((qb_ a b).f3.f2)] 75 (0,0))):=⟨by rw [hq_];exact pP_ Ka.out⟩;have q:Aside0 (Below w.heap.size w az):=⟨by rw [hq_];exact pB_ HB.out⟩;(try clear Ja);(try clear Ka);(try clear HB);(try rw [←hq_]);clear hq_;have Ja:=o;have Ka:=p;have HB:=q;clear o p q
                have n_:=an_ (qi_ Ja.out)<|an_ (qi_ Ka.out)<|D (ql_ HB.out)
                clear Ja Ka HB;obtain ⟨Ja,Ka,HB⟩:=n_;have A:0≤((c):Int):=od_ Z91;have B:(c) < (a.length:Int):=od_ Z91;obtain ⟨ao,ap,s,u,v,x,y,z⟩:=qac_ aq.out (c) A B;have J:=z;have M:=y;have O:=x;have P:=v;have T:=u;have U:=s;obtain rfl:d=ao:=(by injection ap);replace s:=rc_ HB.out s;replace u:=rc_ HB.out u;replace v:=rc_ HB.out v;replace x:=rc_ HB.out x;replace y:=rc_ HB.out y;replace z:=rc_ HB.out z;replace A:=eq_true A;replace B:=eq_true B;refine q1_ (n:=38) (S:=fun w'=>w'.cell? ⟨Ma,0,none⟩=some (I L ((qb_ a b).f0))∧w'.cell? ⟨Ma,1,none⟩=some (I L ((qb_ a b).f1))∧w'.cell? ⟨Ma,2,none⟩=some (.bool ((qb_ a b).f2))∧w'.cell? ⟨Ma,3,none⟩=some (I L ((qb_ a b).f3.f0))∧w'.cell? ⟨Ma,4,none⟩=some (I L ((qb_ a b).f3.f1))∧w'.cell? ⟨Ma,5,none⟩=some (I L ((qb_ a b).f3.f2))∧w'.cell? ⟨Oa,0,none⟩=some (I L l)∧w'.cell? ⟨Oa,1,none⟩=some (I L g)∧w'.cell? ⟨Oa,2,none⟩=some (I L i)∧w'.cell? ⟨Oa,3,none⟩=some (I L j)∧w'.cell? ⟨Oa,4,none⟩=some (Y (some d) a.length m)∧w'.cell? (d.add (((c)).toNat * 6))=some (I L ((qb_ a (c)).f0))∧w'.cell? ⟨(d.add (((c)).toNat * 6)).block,(d.add (((c)).toNat * 6)).off+1,none⟩=some (I L ((qb_ a (c)).f1))∧w'.cell? ⟨(d.add (((c)).toNat * 6)).block,(d.add (((c)).toNat * 6)).off+2,none⟩=some (.bool ((qb_ a (c)).f2))∧w'.cell? ⟨(d.add (((c)).toNat * 6)).block,(d.add (((c)).toNat * 6)).off+3,none⟩=some (I L ((qb_ a (c)).f3.f0))∧w'.cell? ⟨(d.add (((c)).toNat * 6)).block,(d.add (((c)).toNat * 6)).off+4,none⟩=some (I L ((qb_ a (c)).f3.f1))∧w'.cell? ⟨(d.add (((c)).toNat * 6)).block,(d.add (((c)).toNat * 6)).off+5,none⟩=some (I L ((qb_ a (c)).f3.f2))) (ds:=[]) (bz 38 0) (by kernel_rfl) rfl (by kernel_rfl) (bk6_ Ka.out (bk5_ Ja.out (re6_ HB.out U T P O M J))) (fun hHeld=>?_);refine qn_ spec_FairOk.tab7 spec_FairOk.bits7 (fun HT_ HW_=>?_);generalize az.drew=bL at Ja Ka HB s u v x y z hHeld ⊢;refine pb_ 0 ?_;refine tb_ 1 rfl rfl hHeld Z39 ?_;refine pb_ 2 ?_;refine pb_ 3 ?_;refine pb_ 4 ?_
                refine tb_ 5 rfl rfl hHeld Z39 ?_;refine pb_ 6 ?_;refine pb_ 7 ?_;refine pb_ 8 ?_;refine pb_ 9 ?_;refine pb_ 10 ?_;refine pb_ 11 ?_;refine pb_ 12 ?_;refine pb_ 14 ?_;refine pb_ 15 ?_;refine pb_ 19 ?_;refine tb_ 13 rfl rfl hHeld Z39 ?_;refine pb_ 16 ?_;refine pb_ 17 ?_;refine tb_ 18 rfl rfl hHeld Z39 ?_;refine tb_ 20 rfl rfl hHeld Z39 ?_;refine pb_ 21 ?_;refine pb_ 22 ?_;refine pb_ 23 ?_;refine pb_ 24 ?_;refine pb_ 25 ?_;refine tb_ 26 rfl rfl hHeld Z39 ?_;refine oa_ 27 62 38 268435455 HT_ (fun K hK=>?_);refine goes_ Try.func64 (by kernel_rfl) rfl #[I L ((qb_ a b).f1)] (by rfl) rfl rfl Z24 ?_;with_reducible refine (spec_Stride.calls ((qb_ a b).f1) Xa _ aj.out).mono ?_
                rintro e w' ⟨rfl,⟨nd,rfl⟩⟩;refine ⟨_,rfl,?_⟩;refine hK.out _ _ (bk6_ Ka.out (bk5_ Ja.out (re6_ HB.out U T P O M J))) (fun hHeld=>?_);clear hK K;refine nx_ (N:=some 62) ?_;refine pb_ 28 ?_;refine pb_ 29 ?_;refine pb_ 30 ?_;refine pb_ 31 ?_;refine pb_ 33 ?_;refine tb_ 32 rfl rfl hHeld Z39 ?_;refine tb_ 34 rfl rfl hHeld Z39 ?_;refine oa_ 35 70 38 68719476735 HT_ (fun K hK=>?_);refine goes_ Try.func63 (by kernel_rfl) rfl #[.agg #[I L ((qb_ a b).f3.f0),I L ((qb_ a b).f3.f1),I L ((qb_ a b).f3.f2)],I L l] (by rfl) rfl rfl Z24 ?_;with_reducible refine (spec_Narrow.calls ((qb_ a b).f3.f0) ((qb_ a b).f3.f1) ((qb_ a b).f3.f2) l Kc _ bo.out).mono ?_
                rintro e bM ⟨rfl,hb⟩;refine ⟨_,rfl,?_⟩
                have n_:=an_ (qa_ (pk_ Ja.out) hb)<|an_ (qa_ (pk_ Ka.out) hb)<|D (qd_ (pB_ HB.out) hb)
                clear Ja Ka HB;obtain ⟨Ja,Ka,HB⟩:=n_;refine hK.out _ _ (bk6_ Ka.out (bk5_ Ja.out (re6_ HB.out U T P O M J))) (fun hHeld=>?_);clear hK K;refine nx_ (N:=some 70) ?_;refine pb_ 36 ?_;refine pb_ 37 ?_;refine done_ (qv_ HT_.out (by kernel_rfl)) ?_
                try go_wp2
                go_meet
                case rel=>exact ⟨_,(!Kc),Z92,H',⟨by have:=E.out;have:=G.out;first | omega | exact Nat.le_refl _⟩,⟨pk_ Ja.out⟩,⟨pk_ Ka.out⟩,⟨pB_ HB.out⟩⟩
             ·rw [if_neg an] at H
              exact absurd H (by simp)
            ·rw [if_neg am] at H
             exact absurd H (by simp)
           ·rw [if_neg ab] at H
            have a0:decide (0 < b)=false:=decide_eq_false ab;clear ab;obtain ⟨Kb,a6,H⟩:=bs_.mp H;(try dsimp only at H);have a7:=D a6;clear a6
            by_cases X:Kb=0
            ·rw [if_pos X] at H
             have a8:(Kb == 0)=true:=beq_iff_eq.mpr X;have a9:(Kb != 0)=false:=bne_eq_false_iff_eq.mpr X;clear X;have H':=D H;clear H
             try go_wp2
             obtain ⟨aA,hq_⟩:∃ W_,W_=((((((Z.setCell ⟨Ma,0,none⟩ (I L ((qb_ a b).f0))).setCell ⟨Ma,1,none⟩ (I L ((qb_ a b).f1))).setCell ⟨Ma,2,none⟩ (.bool ((qb_ a b).f2))).setCell ⟨Ma,3,none⟩ (I L ((qb_ a b).f3.f0))).setCell ⟨Ma,4,none⟩ (I L ((qb_ a b).f3.f1))).setCell ⟨Ma,5,none⟩ (I L ((qb_ a b).f3.f2))):=⟨_,rfl⟩;have o:Aside0 (aA.heap[Oa]?=some (.cells #[I L l,I L g,I L i,I L j,Y (some d) a.length m] 34 (0,0))):=⟨by rw [hq_];exact pP_ Ja.out⟩;have p:Aside0 (aA.heap[Ma]?=some (.cells #[I L ((qb_ a b).f0),I L ((qb_ a b).f1),.bool ((qb_ a b).f2),I L ((qb_ a b).f3.f0),I L ((qb_ a b).f3.f1),I L ((qb_ a b).f3.f2)] 75 (0,0))):=⟨by rw [hq_];exact pP_ Ka.out⟩;have q:Aside0 (Below w.heap.size w aA):=⟨by rw [hq_];exact pB_ HB.out⟩;(try clear Ja);(try clear Ka);(try clear HB);(try rw [←hq_]);clear hq_;have Ja:=o;have Ka:=p;have HB:=q;clear o p q
             have n_:=an_ (qi_ Ja.out)<|an_ (qi_ Ka.out)<|D (ql_ HB.out)
             clear Ja Ka HB;obtain ⟨Ja,Ka,HB⟩:=n_;refine q1_ (n:=38) (S:=fun w'=>w'.cell? ⟨Ma,0,none⟩=some (I L ((qb_ a b).f0))∧w'.cell? ⟨Ma,1,none⟩=some (I L ((qb_ a b).f1))∧w'.cell? ⟨Ma,2,none⟩=some (.bool ((qb_ a b).f2))∧w'.cell? ⟨Ma,3,none⟩=some (I L ((qb_ a b).f3.f0))∧w'.cell? ⟨Ma,4,none⟩=some (I L ((qb_ a b).f3.f1))∧w'.cell? ⟨Ma,5,none⟩=some (I L ((qb_ a b).f3.f2))) (ds:=[]) (bz 38 0) (by kernel_rfl) rfl (by kernel_rfl) (be6_ Ka.out) (fun hHeld=>?_);refine qn_ spec_FairOk.tab7 spec_FairOk.bits7 (fun HT_ HW_=>?_);generalize aA.drew=bN at Ja Ka HB hHeld ⊢;refine pb_ 0 ?_;refine tb_ 1 rfl rfl hHeld Z87 ?_;refine pb_ 2 ?_;refine pb_ 3 ?_;refine pb_ 4 ?_;refine tb_ 5 rfl rfl hHeld Z87 ?_;refine pb_ 6 ?_;refine pb_ 7 ?_;refine pb_ 8 ?_;refine pb_ 9 ?_;refine pb_ 10 ?_;refine pb_ 11 ?_;refine ob_ 12 ?_;refine ob_ 13 ?_;refine ob_ 14 ?_;refine ob_ 15 ?_;refine ob_ 16 ?_;refine ob_ 17 ?_;refine ob_ 18 ?_;refine ob_ 19 ?_;refine ob_ 20 ?_;refine ob_ 21 ?_;refine pb_ 22 ?_;refine pb_ 23 ?_;refine pb_ 24 ?_;refine pb_ 25 ?_;refine tb_ 26 rfl rfl hHeld Z87 ?_;refine oa_ 27 62 38 268435455 HT_ (fun K hK=>?_);refine goes_ Try.func64 (by kernel_rfl) rfl #[I L ((qb_ a b).f1)] (by rfl) rfl rfl Z24 ?_;with_reducible refine (spec_Stride.calls ((qb_ a b).f1) Kb _ a7.out).mono ?_
             rintro e w' ⟨rfl,⟨nd,rfl⟩⟩;refine ⟨_,rfl,?_⟩;refine hK.out _ _ (be6_ Ka.out) (fun hHeld=>?_);clear hK K;refine nx_ (N:=some 62) ?_;refine pb_ 28 ?_;refine pb_ 29 ?_;refine pb_ 30 ?_;refine ob_ 31 ?_;refine ob_ 32 ?_;refine ob_ 33 ?_;refine ob_ 34 ?_;refine ob_ 35 ?_;refine ob_ 36 ?_;refine pb_ 37 ?_;refine done_ (qv_ HT_.out (by kernel_rfl)) ?_
             try go_wp2
             go_meet
             case rel=>exact ⟨_,(true),Z92,H',⟨by have:=E.out;have:=G.out;first | omega | exact Nat.le_refl _⟩,⟨pk_ Ja.out⟩,⟨pk_ Ka.out⟩,⟨pB_ HB.out⟩⟩
            ·rw [if_neg X] at H
             have a8:(Kb == 0)=false:=beq_eq_false_iff_ne.mpr X;have a9:(Kb != 0)=true:=bne_iff_ne.mpr X;obtain ⟨Jo,ba,H⟩:=bs_.mp H;(try dsimp only at H);have bp:=D ba;clear ba;have H':=D H;clear H
             try go_wp2
             obtain ⟨aB,hq_⟩:∃ W_,W_=((((((Z.setCell ⟨Ma,0,none⟩ (I L ((qb_ a b).f0))).setCell ⟨Ma,1,none⟩ (I L ((qb_ a b).f1))).setCell ⟨Ma,2,none⟩ (.bool ((qb_ a b).f2))).setCell ⟨Ma,3,none⟩ (I L ((qb_ a b).f3.f0))).setCell ⟨Ma,4,none⟩ (I L ((qb_ a b).f3.f1))).setCell ⟨Ma,5,none⟩ (I L ((qb_ a b).f3.f2))):=⟨_,rfl⟩;have o:Aside0 (aB.heap[Oa]?=some (.cells #[I L l,I L g,I L i,I L j,Y (some d) a.length m] 34 (0,0))):=⟨by rw [hq_];exact pP_ Ja.out⟩;have p:Aside0 (aB.heap[Ma]?=some (.cells #[I L ((qb_ a b).f0),I L ((qb_ a b).f1),.bool ((qb_ a b).f2),I L ((qb_ a b).f3.f0),I L ((qb_ a b).f3.f1),I L ((qb_ a b).f3.f2)] 75 (0,0))):=⟨by rw [hq_];exact pP_ Ka.out⟩;have q:Aside0 (Below w.heap.size w aB):=⟨by rw [hq_];exact pB_ HB.out⟩;(try clear Ja);(try clear Ka);(try clear HB);(try rw [←hq_]);clear hq_;have Ja:=o;have Ka:=p;have HB:=q;clear o p q
             have n_:=an_ (qi_ Ja.out)<|an_ (qi_ Ka.out)<|D (ql_ HB.out)
             clear Ja Ka HB;obtain ⟨Ja,Ka,HB⟩:=n_;refine q1_ (n:=38) (S:=fun w'=>w'.cell? ⟨Ma,0,none⟩=some (I L ((qb_ a b).f0))∧w'.cell? ⟨Ma,1,none⟩=some (I L ((qb_ a b).f1))∧w'.cell? ⟨Ma,2,none⟩=some (.bool ((qb_ a b).f2))∧w'.cell? ⟨Ma,3,none⟩=some (I L ((qb_ a b).f3.f0))∧w'.cell? ⟨Ma,4,none⟩=some (I L ((qb_ a b).f3.f1))∧w'.cell? ⟨Ma,5,none⟩=some (I L ((qb_ a b).f3.f2))∧w'.cell? ⟨Oa,0,none⟩=some (I L l)∧w'.cell? ⟨Oa,1,none⟩=some (I L g)∧w'.cell? ⟨Oa,2,none⟩=some (I L i)∧w'.cell? ⟨Oa,3,none⟩=some (I L j)∧w'.cell? ⟨Oa,4,none⟩=some (Y (some d) a.length m)) (ds:=[]) (bz 38 0) (by kernel_rfl) rfl (by kernel_rfl) (bk6_ Ka.out (be5_ Ja.out)) (fun hHeld=>?_);refine qn_ spec_FairOk.tab7 spec_FairOk.bits7 (fun HT_ HW_=>?_);generalize aB.drew=bO at Ja Ka HB hHeld ⊢;refine pb_ 0 ?_;refine tb_ 1 rfl rfl hHeld Z85 ?_;refine pb_ 2 ?_;refine pb_ 3 ?_;refine pb_ 4 ?_;refine tb_ 5 rfl rfl hHeld Z85 ?_;refine pb_ 6 ?_;refine pb_ 7 ?_;refine pb_ 8 ?_;refine pb_ 9 ?_;refine pb_ 10 ?_;refine pb_ 11 ?_;refine ob_ 12 ?_;refine ob_ 13 ?_;refine ob_ 14 ?_;refine ob_ 15 ?_;refine ob_ 16 ?_;refine ob_ 17 ?_;refine ob_ 18 ?_;refine ob_ 19 ?_;refine ob_ 20 ?_;refine ob_ 21 ?_;refine pb_ 22 ?_;refine pb_ 23 ?_;refine pb_ 24 ?_;refine pb_ 25 ?_;refine tb_ 26 rfl rfl hHeld Z85 ?_;refine oa_ 27 62 38 268435455 HT_ (fun K hK=>?_);refine goes_ Try.func64 (by kernel_rfl) rfl #[I L ((qb_ a b).f1)] (by rfl) rfl rfl Z24 ?_;with_reducible refine (spec_Stride.calls ((qb_ a b).f1) Kb _ a7.out).mono ?_
             rintro e w' ⟨rfl,⟨nd,rfl⟩⟩;refine ⟨_,rfl,?_⟩;refine hK.out _ _ (bk6_ Ka.out (be5_ Ja.out)) (fun hHeld=>?_);clear hK K;refine nx_ (N:=some 62) ?_;refine pb_ 28 ?_;refine pb_ 29 ?_;refine pb_ 30 ?_;refine pb_ 31 ?_;refine pb_ 33 ?_;refine tb_ 32 rfl rfl hHeld Z85 ?_;refine tb_ 34 rfl rfl hHeld Z85 ?_;refine oa_ 35 70 38 68719476735 HT_ (fun K hK=>?_);refine goes_ Try.func63 (by kernel_rfl) rfl #[.agg #[I L ((qb_ a b).f3.f0),I L ((qb_ a b).f3.f1),I L ((qb_ a b).f3.f2)],I L l] (by rfl) rfl rfl Z24 ?_;with_reducible refine (spec_Narrow.calls ((qb_ a b).f3.f0) ((qb_ a b).f3.f1) ((qb_ a b).f3.f2) l Jo _ bp.out).mono ?_
             rintro e bP ⟨rfl,hb⟩;refine ⟨_,rfl,?_⟩
             have n_:=an_ (qa_ (pk_ Ja.out) hb)<|an_ (qa_ (pk_ Ka.out) hb)<|D (qd_ (pB_ HB.out) hb)
             clear Ja Ka HB;obtain ⟨Ja,Ka,HB⟩:=n_;refine hK.out _ _ (bk6_ Ka.out (be5_ Ja.out)) (fun hHeld=>?_);clear hK K;refine nx_ (N:=some 70) ?_;refine pb_ 36 ?_;refine pb_ 37 ?_;refine done_ (qv_ HT_.out (by kernel_rfl)) ?_
             try go_wp2
             go_meet
             case rel=>exact ⟨_,(!Jo),Z92,H',⟨by have:=E.out;have:=G.out;first | omega | exact Nat.le_refl _⟩,⟨pk_ Ja.out⟩,⟨pk_ Ka.out⟩,⟨pB_ HB.out⟩⟩
        case rest =>
         clear aH
         (try clear p1);(try clear q1);(try clear bS);(try clear p2);(try clear c3);(try clear c4);(try clear c6);(try clear p6);(try clear bU);(try clear bV);(try clear bW);(try clear aa);(try clear aZ);(try clear ab);(try clear a0);(try clear am);(try clear bm);(try clear an);(try clear bn);(try clear ac);(try clear a1);(try clear W);(try clear a3);(try clear a4);(try clear X);(try clear a8);(try clear a9);(try clear s u v x y z);(try clear A);(try clear B)
         obtain ⟨kq,Jc,rfl,HA,aC,Ja,Ka,HB⟩:=hcut
         cases kq with
         | zero=>exact absurd HA.out (by simp [spec_FairOk.j2])
         | succ kj21 =>
          have H:=HA.out;clear HA;simp only [spec_FairOk.j2] at H
          by_cases aD:Jc=true
          ·subst aD
           rw [if_pos rfl] at H;obtain rfl:=Option.some.inj H
           go_wp2
           go_ret;exact ⟨er_,pB_ HB.out⟩
          ·replace aD:=Bool.eq_false_iff.mpr aD
           subst aD;rw [if_neg (show ¬ (false=true) by decide)] at H;obtain ⟨Mb,bb,H⟩:=bs_.mp H;(try dsimp only at H);have aL:=D bb;clear bb;obtain ⟨Ob,bc,H⟩:=bs_.mp H;(try dsimp only at H);have aM:=D bc;clear bc;obtain ⟨Ub,bd,H⟩:=bs_.mp H;(try dsimp only at H);have aN:=D bd;clear bd
           by_cases af:Mb > (wrap64 (Ob+(wrap64 (Ub * 2000))))
           ·rw [if_pos af] at H
            have bq:decide ((wrap64 (Ob+(wrap64 (Ub * 2000)))) < Mb)=true:=decide_eq_true af;clear af;obtain rfl:=Option.some.inj H
            try go_wp2
            have n_:=an_ (qi_ Ja.out)<|an_ (qi_ Ka.out)<|D (ql_ HB.out)
            clear Ja Ka HB;obtain ⟨Ja,Ka,HB⟩:=n_;refine q1_ (n:=25) (S:=fun w'=>w'.cell? ⟨Ma,0,none⟩=some (I L ((qb_ a b).f0))∧w'.cell? ⟨Ma,1,none⟩=some (I L ((qb_ a b).f1))∧w'.cell? ⟨Ma,2,none⟩=some (.bool ((qb_ a b).f2))∧w'.cell? ⟨Ma,3,none⟩=some (I L ((qb_ a b).f3.f0))∧w'.cell? ⟨Ma,4,none⟩=some (I L ((qb_ a b).f3.f1))∧w'.cell? ⟨Ma,5,none⟩=some (I L ((qb_ a b).f3.f2))∧w'.cell? ⟨Oa,0,none⟩=some (I L l)∧w'.cell? ⟨Oa,1,none⟩=some (I L g)∧w'.cell? ⟨Oa,2,none⟩=some (I L i)∧w'.cell? ⟨Oa,3,none⟩=some (I L j)∧w'.cell? ⟨Oa,4,none⟩=some (Y (some d) a.length m)) (ds:=[]) (bz 25 0) (by kernel_rfl) rfl (by kernel_rfl) (bk6_ Ka.out (be5_ Ja.out)) (fun hHeld=>?_);refine qn_ spec_FairOk.tab9 spec_FairOk.bits9 (fun HT_ HW_=>?_);generalize wc.drew=bX at Ja Ka HB hHeld ⊢;refine pb_ 0 ?_;refine pb_ 3 ?_;refine pb_ 6 ?_;refine tb_ 1 rfl rfl hHeld Z85 ?_;refine tb_ 4 rfl rfl hHeld Z85 ?_;refine tb_ 7 rfl rfl hHeld Z85 ?_;refine oa_ 2 75 25 223 HT_ (fun K hK=>?_);refine goes_ Try.func44 (by kernel_rfl) rfl #[.agg #[I L ((qb_ a b).f3.f0),I L ((qb_ a b).f3.f1),I L ((qb_ a b).f3.f2)]] (by rfl) rfl rfl Z24 ?_;with_reducible refine (spec_VecTop.calls ((qb_ a b).f3.f0) ((qb_ a b).f3.f1) ((qb_ a b).f3.f2) Mb _ aL.out).mono ?_
            rintro e bY ⟨rfl,hb⟩;refine ⟨_,rfl,?_⟩
            have n_:=an_ (qa_ (pk_ Ja.out) hb)<|an_ (qa_ (pk_ Ka.out) hb)<|D (qd_ (pB_ HB.out) hb)
            clear Ja Ka HB;obtain ⟨Ja,Ka,HB⟩:=n_;refine hK.out _ _ (bk6_ Ka.out (be5_ Ja.out)) (fun hHeld=>?_);clear hK K;refine nx_ (N:=some 75) ?_;refine oa_ 5 78 25 255 HT_ (fun K hK=>?_);refine goes_ Try.func44 (by kernel_rfl) rfl #[.agg #[I L g,I L i,I L j]] (by rfl) rfl rfl Z24 ?_;with_reducible refine (spec_VecTop.calls g i j Ob _ aM.out).mono ?_
            rintro e bZ ⟨rfl,hb⟩;refine ⟨_,rfl,?_⟩
            have n_:=an_ (qa_ (pk_ Ja.out) hb)<|an_ (qa_ (pk_ Ka.out) hb)<|D (qd_ (pB_ HB.out) hb)
            clear Ja Ka HB;obtain ⟨Ja,Ka,HB⟩:=n_;refine hK.out _ _ (bk6_ Ka.out (be5_ Ja.out)) (fun hHeld=>?_);clear hK K;refine nx_ (N:=some 78) ?_;refine oa_ 8 81 25 511 HT_ (fun K hK=>?_);refine goes_ Try.func64 (by kernel_rfl) rfl #[I L ((qb_ a b).f1)] (by rfl) rfl rfl Z24 ?_;with_reducible refine (spec_Stride.calls ((qb_ a b).f1) Ub _ aN.out).mono ?_
            rintro e w' ⟨rfl,⟨nd,rfl⟩⟩;refine ⟨_,rfl,?_⟩;refine hK.out _ _ (bk6_ Ka.out (be5_ Ja.out)) (fun hHeld=>?_);clear hK K;refine nx_ (N:=some 81) ?_;refine pb_ 9 ?_;refine pb_ 10 ?_;refine pb_ 11 ?_;refine pb_ 12 ?_;refine ob_ 13 ?_;refine ob_ 14 ?_;refine ob_ 15 ?_;refine ob_ 16 ?_;refine ob_ 17 ?_;refine ob_ 18 ?_;refine ob_ 19 ?_;refine ob_ 20 ?_;refine ob_ 21 ?_;refine ob_ 22 ?_;refine ob_ 23 ?_;refine pb_ 24 ?_;refine done_ (qv_ HT_.out (by kernel_rfl)) ?_
            try go_wp2
            go_ret;exact ⟨er_,pB_ HB.out⟩
           ·rw [if_neg af] at H
            have bq:decide ((wrap64 (Ob+(wrap64 (Ub * 2000)))) < Mb)=false:=decide_eq_false af;clear af
            by_cases ag:((qb_ a b).f2)=true
            ·rw [if_pos ag] at H
             have bs:((qb_ a b).f2)=true:=ag;clear ag;obtain ⟨Mc,be,H⟩:=bs_.mp H;(try dsimp only at H);have bu:=D be;clear be;obtain ⟨Oc,bf,H⟩:=bs_.mp H;(try dsimp only at H);have bv:=D bf;clear bf;have bg:=D H;clear H
             try go_wp2
             have n_:=an_ (qi_ Ja.out)<|an_ (qi_ Ka.out)<|D (ql_ HB.out)
             clear Ja Ka HB;obtain ⟨Ja,Ka,HB⟩:=n_;refine q1_ (n:=25) (S:=fun w'=>w'.cell? ⟨Ma,0,none⟩=some (I L ((qb_ a b).f0))∧w'.cell? ⟨Ma,1,none⟩=some (I L ((qb_ a b).f1))∧w'.cell? ⟨Ma,2,none⟩=some (.bool ((qb_ a b).f2))∧w'.cell? ⟨Ma,3,none⟩=some (I L ((qb_ a b).f3.f0))∧w'.cell? ⟨Ma,4,none⟩=some (I L ((qb_ a b).f3.f1))∧w'.cell? ⟨Ma,5,none⟩=some (I L ((qb_ a b).f3.f2))∧w'.cell? ⟨Oa,0,none⟩=some (I L l)∧w'.cell? ⟨Oa,1,none⟩=some (I L g)∧w'.cell? ⟨Oa,2,none⟩=some (I L i)∧w'.cell? ⟨Oa,3,none⟩=some (I L j)∧w'.cell? ⟨Oa,4,none⟩=some (Y (some d) a.length m)) (ds:=[]) (bz 25 0) (by kernel_rfl) rfl (by kernel_rfl) (bk6_ Ka.out (be5_ Ja.out)) (fun hHeld=>?_);refine qn_ spec_FairOk.tab9 spec_FairOk.bits9 (fun HT_ HW_=>?_);generalize wc.drew=b0 at Ja Ka HB hHeld ⊢;refine pb_ 0 ?_;refine pb_ 3 ?_;refine pb_ 6 ?_;refine tb_ 1 rfl rfl hHeld Z85 ?_;refine tb_ 4 rfl rfl hHeld Z85 ?_;refine tb_ 7 rfl rfl hHeld Z85 ?_;refine oa_ 2 75 25 223 HT_ (fun K hK=>?_);refine goes_ Try.func44 (by kernel_rfl) rfl #[.agg #[I L ((qb_ a b).f3.f0),I L ((qb_ a b).f3.f1),I L ((qb_ a b).f3.f2)]] (by rfl) rfl rfl Z24 ?_;with_reducible refine (spec_VecTop.calls ((qb_ a b).f3.f0) ((qb_ a b).f3.f1) ((qb_ a b).f3.f2) Mb _ aL.out).mono ?_
             rintro e b1 ⟨rfl,hb⟩;refine ⟨_,rfl,?_⟩
             have n_:=an_ (qa_ (pk_ Ja.out) hb)<|an_ (qa_ (pk_ Ka.out) hb)<|D (qd_ (pB_ HB.out) hb)
             clear Ja Ka HB;obtain ⟨Ja,Ka,HB⟩:=n_;refine hK.out _ _ (bk6_ Ka.out (be5_ Ja.out)) (fun hHeld=>?_);clear hK K;refine nx_ (N:=some 75) ?_;refine oa_ 5 78 25 255 HT_ (fun K hK=>?_);refine goes_ Try.func44 (by kernel_rfl) rfl #[.agg #[I L g,I L i,I L j]] (by rfl) rfl rfl Z24 ?_;with_reducible refine (spec_VecTop.calls g i j Ob _ aM.out).mono ?_
             rintro e b2 ⟨rfl,hb⟩;refine ⟨_,rfl,?_⟩
             have n_:=an_ (qa_ (pk_ Ja.out) hb)<|an_ (qa_ (pk_ Ka.out) hb)<|D (qd_ (pB_ HB.out) hb)
             clear Ja Ka HB;obtain ⟨Ja,Ka,HB⟩:=n_;refine hK.out _ _ (bk6_ Ka.out (be5_ Ja.out)) (fun hHeld=>?_);clear hK K;refine nx_ (N:=some 78) ?_;refine oa_ 8 81 25 511 HT_ (fun K hK=>?_);refine goes_ Try.func64 (by kernel_rfl) rfl #[I L ((qb_ a b).f1)] (by rfl) rfl rfl Z24 ?_;with_reducible refine (spec_Stride.calls ((qb_ a b).f1) Ub _ aN.out).mono ?_
             rintro e w' ⟨rfl,⟨nd,rfl⟩⟩;refine ⟨_,rfl,?_⟩;refine hK.out _ _ (bk6_ Ka.out (be5_ Ja.out)) (fun hHeld=>?_);clear hK K;refine nx_ (N:=some 81) ?_;refine pb_ 9 ?_;refine pb_ 10 ?_;refine pb_ 11 ?_;refine pb_ 12 ?_;refine pb_ 13 ?_;refine tb_ 14 rfl rfl hHeld Z85 ?_;refine pb_ 15 ?_;refine pb_ 16 ?_;refine pb_ 19 ?_;refine tb_ 17 rfl rfl hHeld Z85 ?_;refine tb_ 20 rfl rfl hHeld Z85 ?_;refine oa_ 18 91 25 2097151 HT_ (fun K hK=>?_);refine goes_ Try.func44 (by kernel_rfl) rfl #[.agg #[I L ((qb_ a b).f3.f0),I L ((qb_ a b).f3.f1),I L ((qb_ a b).f3.f2)]] (by rfl) rfl rfl Z24 ?_;with_reducible refine (spec_VecTop.calls ((qb_ a b).f3.f0) ((qb_ a b).f3.f1) ((qb_ a b).f3.f2) Mc _ bu.out).mono ?_
             rintro e b3 ⟨rfl,hb⟩;refine ⟨_,rfl,?_⟩
             have n_:=an_ (qa_ (pk_ Ja.out) hb)<|an_ (qa_ (pk_ Ka.out) hb)<|D (qd_ (pB_ HB.out) hb)
             clear Ja Ka HB;obtain ⟨Ja,Ka,HB⟩:=n_;refine hK.out _ _ (bk6_ Ka.out (be5_ Ja.out)) (fun hHeld=>?_);clear hK K;refine nx_ (N:=some 91) ?_;refine oa_ 21 94 25 4194303 HT_ (fun K hK=>?_);refine goes_ Try.func44 (by kernel_rfl) rfl #[.agg #[I L g,I L i,I L j]] (by rfl) rfl rfl Z24 ?_;with_reducible refine (spec_VecTop.calls g i j Oc _ bv.out).mono ?_
             rintro e b4 ⟨rfl,hb⟩;refine ⟨_,rfl,?_⟩
             have n_:=an_ (qa_ (pk_ Ja.out) hb)<|an_ (qa_ (pk_ Ka.out) hb)<|D (qd_ (pB_ HB.out) hb)
             clear Ja Ka HB;obtain ⟨Ja,Ka,HB⟩:=n_;refine hK.out _ _ (bk6_ Ka.out (be5_ Ja.out)) (fun hHeld=>?_);clear hK K;refine nx_ (N:=some 94) ?_;refine pb_ 22 ?_;refine pb_ 23 ?_;refine pb_ 24 ?_;refine done_ (qv_ HT_.out (by kernel_rfl)) ?_
             go_upto_if 97 with (fail)
             have H:=bg.out;clear bg
             by_cases ah:Mc < Oc
             ·rw [if_pos ah] at H
              have aO:decide (Mc < Oc)=true:=decide_eq_true ah;clear ah;refine rw_ aO ?_;obtain rfl:=Option.some.inj H
              go_wp2
              go_ret;exact ⟨er_,pB_ HB.out⟩
             ·rw [if_neg ah] at H
              have aO:decide (Mc < Oc)=false:=decide_eq_false ah;clear ah;refine rw_ aO ?_;have H':=D H;clear H
              go_wp2
              go_roundg kj21
              case measure=>have:=E.out;have:=G.out;have:=aC.out;omega
              case rel=>exact ⟨(wrap64 (b+1)),Z92,H',⟨by have:=E.out;have:=G.out;have:=aC.out;omega⟩,⟨pk_ Ja.out⟩,⟨pB_ HB.out⟩⟩
            ·rw [if_neg ag] at H
             have bs:((qb_ a b).f2)=false:=by simpa using ag
             clear ag;have H':=D H;clear H
             try go_wp2
             have n_:=an_ (qi_ Ja.out)<|an_ (qi_ Ka.out)<|D (ql_ HB.out)
             clear Ja Ka HB;obtain ⟨Ja,Ka,HB⟩:=n_;refine q1_ (n:=25) (S:=fun w'=>w'.cell? ⟨Ma,0,none⟩=some (I L ((qb_ a b).f0))∧w'.cell? ⟨Ma,1,none⟩=some (I L ((qb_ a b).f1))∧w'.cell? ⟨Ma,2,none⟩=some (.bool ((qb_ a b).f2))∧w'.cell? ⟨Ma,3,none⟩=some (I L ((qb_ a b).f3.f0))∧w'.cell? ⟨Ma,4,none⟩=some (I L ((qb_ a b).f3.f1))∧w'.cell? ⟨Ma,5,none⟩=some (I L ((qb_ a b).f3.f2))∧w'.cell? ⟨Oa,0,none⟩=some (I L l)∧w'.cell? ⟨Oa,1,none⟩=some (I L g)∧w'.cell? ⟨Oa,2,none⟩=some (I L i)∧w'.cell? ⟨Oa,3,none⟩=some (I L j)∧w'.cell? ⟨Oa,4,none⟩=some (Y (some d) a.length m)) (ds:=[]) (bz 25 0) (by kernel_rfl) rfl (by kernel_rfl) (bk6_ Ka.out (be5_ Ja.out)) (fun hHeld=>?_);refine qn_ spec_FairOk.tab9 spec_FairOk.bits9 (fun HT_ HW_=>?_);generalize wc.drew=b5 at Ja Ka HB hHeld ⊢;refine pb_ 0 ?_;refine pb_ 3 ?_;refine pb_ 6 ?_;refine tb_ 1 rfl rfl hHeld Z85 ?_;refine tb_ 4 rfl rfl hHeld Z85 ?_;refine tb_ 7 rfl rfl hHeld Z85 ?_;refine oa_ 2 75 25 223 HT_ (fun K hK=>?_);refine goes_ Try.func44 (by kernel_rfl) rfl #[.agg #[I L ((qb_ a b).f3.f0),I L ((qb_ a b).f3.f1),I L ((qb_ a b).f3.f2)]] (by rfl) rfl rfl Z24 ?_;with_reducible refine (spec_VecTop.calls ((qb_ a b).f3.f0) ((qb_ a b).f3.f1) ((qb_ a b).f3.f2) Mb _ aL.out).mono ?_
             rintro e b6 ⟨rfl,hb⟩;refine ⟨_,rfl,?_⟩
             have n_:=an_ (qa_ (pk_ Ja.out) hb)<|an_ (qa_ (pk_ Ka.out) hb)<|D (qd_ (pB_ HB.out) hb)
             clear Ja Ka HB;obtain ⟨Ja,Ka,HB⟩:=n_;refine hK.out _ _ (bk6_ Ka.out (be5_ Ja.out)) (fun hHeld=>?_);clear hK K;refine nx_ (N:=some 75) ?_;refine oa_ 5 78 25 255 HT_ (fun K hK=>?_);refine goes_ Try.func44 (by kernel_rfl) rfl #[.agg #[I L g,I L i,I L j]] (by rfl) rfl rfl Z24 ?_;with_reducible refine (spec_VecTop.calls g i j Ob _ aM.out).mono ?_
             rintro e b7 ⟨rfl,hb⟩;refine ⟨_,rfl,?_⟩
             have n_:=an_ (qa_ (pk_ Ja.out) hb)<|an_ (qa_ (pk_ Ka.out) hb)<|D (qd_ (pB_ HB.out) hb)
             clear Ja Ka HB;obtain ⟨Ja,Ka,HB⟩:=n_;refine hK.out _ _ (bk6_ Ka.out (be5_ Ja.out)) (fun hHeld=>?_);clear hK K;refine nx_ (N:=some 78) ?_;refine oa_ 8 81 25 511 HT_ (fun K hK=>?_);refine goes_ Try.func64 (by kernel_rfl) rfl #[I L ((qb_ a b).f1)] (by rfl) rfl rfl Z24 ?_;with_reducible refine (spec_Stride.calls ((qb_ a b).f1) Ub _ aN.out).mono ?_
             rintro e w' ⟨rfl,⟨nd,rfl⟩⟩;refine ⟨_,rfl,?_⟩;refine hK.out _ _ (bk6_ Ka.out (be5_ Ja.out)) (fun hHeld=>?_);clear hK K;refine nx_ (N:=some 81) ?_;refine pb_ 9 ?_;refine pb_ 10 ?_;refine pb_ 11 ?_;refine pb_ 12 ?_;refine pb_ 13 ?_;refine tb_ 14 rfl rfl hHeld Z85 ?_;refine pb_ 15 ?_;refine ob_ 16 ?_;refine ob_ 17 ?_;refine ob_ 18 ?_;refine ob_ 19 ?_;refine ob_ 20 ?_;refine ob_ 21 ?_;refine ob_ 22 ?_;refine pb_ 23 ?_;refine pb_ 24 ?_;refine done_ (qv_ HT_.out (by kernel_rfl)) ?_
             try go_wp2
             go_roundg kj21
             case measure=>have:=E.out;have:=G.out;have:=aC.out;omega
             case rel=>exact ⟨(wrap64 (b+1)),Z92,H',⟨by have:=E.out;have:=G.out;have:=aC.out;omega⟩,⟨pk_ Ja.out⟩,⟨pB_ HB.out⟩⟩
       ·rw [if_neg au] at H
        exact absurd H (by simp)
      ·rw [if_neg ad] at H
       have bj:decide (b < (a.length:Int))=false:=decide_eq_false ad;clear ad;obtain rfl:=Option.some.inj H;obtain ⟨Us,Xs,Ju,Ku,Mu,Ou,Uu,Xu,Jv,Kv⟩:=qx_ Ja.out
       go_wp2
       go_ret;exact ⟨er_,pB_ HB.out⟩
end Go.Proofs.Ytjhgkonacdimfac.PFnExactTreeServe
