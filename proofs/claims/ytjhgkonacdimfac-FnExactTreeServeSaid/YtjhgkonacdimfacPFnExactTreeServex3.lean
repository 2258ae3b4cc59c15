-- by a program of this session's, over the kit's words
import Derived.Test.YtjhgkonacdimfacPZFnExactTreeServe
import Derived.Test.YtjhgkonacdimfacPFnExactTreeServex0
import Derived.Test.YtjhgkonacdimfacPFnExactTreeServex1
import Derived.Test.YtjhgkonacdimfacPFnExactTreeServex2
namespace Go.Proofs.Ytjhgkonacdimfac.PFnExactTreeServe
open Go.RowKit Go.Proofs.YtjhgkonacdimfacW.PrintWords Go.Proofs.YtjhgkonacdimfacW.PrintLast Go.Proofs.YtjhgkonacdimfacW.PrintMore Go.Proofs.YtjhgkonacdimfacV Go.Proofs.Ytjhgkonacdimfac.ZFnExactTreeServe
open Go.Value renaming int → I, slice → Y
open Go.IntKind renaming i64 → L
open Aside0 renaming mk → D
open Option renaming bind_eq_some_iff → bs_
attribute [local go_sem] qam_ qak_ qaw_ qav_ qae_ qad_ qal_ qaj_
set_option linter.unusedVariables false
set_option linter.unusedSimpArgs false
set_option maxHeartbeats 8000000
set_option maxRecDepth 100000
mutual
def spec_TreeOk.j0:Nat→Bool→Int→Int→Int→Int→List (S75)→List (S54)→Option (Bool)
 | 0,_,_,_,_,_,_,_=>none
 | k+1,i,d,e,g,h,c,b=>if i=true then (some false) else (spec_TreeOk.l0 k 0 d e g h c b)
def spec_TreeOk.l0:Nat→Int→Int→Int→Int→Int→List (S75)→List (S54)→Option (Bool)
 | 0,_,_,_,_,_,_,_=>none
 | k+1,a,d,e,g,h,c,b=>if a < (b.length:Int) then (if 0≤a then (if a < (c.length:Int) then (if ((qc_ b a).f0)=((qb_ c a).f0) then (if ((qc_ b a).f1.f0)=d then ((spec_FairOk.f k ((qc_ b a).f1.f0) ((qc_ b a).f1.f1.f0) ((qc_ b a).f1.f1.f1) ((qc_ b a).f1.f1.f2) ((qc_ b a).f1.f2)).bind fun j=>(spec_TreeOk.j2 k a (!j) d e g h c b ((qc_ b a).f0) ((qc_ b a).f1.f0) ((qc_ b a).f1.f1.f0) ((qc_ b a).f1.f1.f1) ((qc_ b a).f1.f1.f2) ((qc_ b a).f1.f2))) else (spec_TreeOk.j2 k a true d e g h c b ((qc_ b a).f0) ((qc_ b a).f1.f0) ((qc_ b a).f1.f1.f0) ((qc_ b a).f1.f1.f1) ((qc_ b a).f1.f1.f2) ((qc_ b a).f1.f2))) else (spec_TreeOk.j2 k a true d e g h c b ((qc_ b a).f0) ((qc_ b a).f1.f0) ((qc_ b a).f1.f1.f0) ((qc_ b a).f1.f1.f1) ((qc_ b a).f1.f1.f2) ((qc_ b a).f1.f2))) else (none)) else (none)) else (some true)
def spec_TreeOk.j2:Nat→Int→Bool→Int→Int→Int→Int→List (S75)→List (S54)→Int→Int→Int→Int→Int→List (S75)→Option (Bool)
 | 0,_,_,_,_,_,_,_,_,_,_,_,_,_,_=>none
 | k+1,a,l,d,e,g,h,c,b,s,m,n,o,p,q=>if l=true then (some false) else (if 0≤a then (if a < (c.length:Int) then ((spec_l19Busy.f k m n o p q).bind fun r=>(if (((qb_ c a).f2) != (decide ((r.length:Int) > 0)))=true then (some false) else (spec_TreeOk.l0 k (wrap64 (a+1)) d e g h c b))) else (none)) else (none))
end
def spec_TreeOk.f (k:Nat) (b c d e:Int) (a:List (S75)) (l0_5:List (S54)):Option (Bool):=(spec_FairOk.f k b c d e a).bind fun g=>(if g=true then (spec_TreeOk.j0 k ((l0_5.length:Int) != (a.length:Int)) b c d e a l0_5) else (spec_TreeOk.j0 k true b c d e a l0_5))
def spec_TreeOk.T7:Bool×List (List Nat×List Nat):=(true,[([],[]),([0],[0]),([],[]),([2],[2]),([3],[3]),([],[]),([4,5],[4,5]),([6],[6]),([7],[7]),([1,8],[1,8]),([9],[9]),([10],[10]),([11,10],[10,11]),([12,10],[10,12]),([10],[10]),([14,10],[10,14]),([15,10],[10,15]),([13,16,10],[10,13,16]),([10,17],[10,17]),([18,10],[18]),([19],[19]),([20,19],[19,20]),([21,19,19],[19,21]),([22,19],[19,22]),([19,23],[19,23])])
def spec_TreeOk.B7:List Nat:=[0,1,0,4,12,0,60,124,252,511,1023,2047,4095,8191,2047,18431,51199,131071,262143,524287,1048575,2097151,4194303,8388607,16777215]
theorem spec_TreeOk.tab7:rtab .any (opsOf Try.f14 7)=spec_TreeOk.T7:=by kernel_rfl
theorem spec_TreeOk.bits7:q3_ spec_TreeOk.T7.2 spec_TreeOk.B7=true:=by kernel_rfl
def spec_TreeOk.T9:Bool×List (List Nat×List Nat):=(true,[([],[]),([0],[0]),([1],[1]),([],[]),([2,3],[2,3]),([4],[4]),([5],[5]),([],[]),([7],[7]),([8],[8]),([9],[9]),([10],[10]),([6,11],[6,11])])
def spec_TreeOk.B9:List Nat:=[0,1,3,0,15,31,63,0,128,384,896,1920,4095]
theorem spec_TreeOk.tab9:rtab .any (opsOf Try.f14 9)=spec_TreeOk.T9:=by kernel_rfl
theorem spec_TreeOk.bits9:q3_ spec_TreeOk.T9.2 spec_TreeOk.B9=true:=by kernel_rfl
theorem spec_TreeOk.calls (k:Nat) (d g i j:Int) (E:Option Addr) (l:Nat) (b:List (S75)) (ag:Option Addr) (v:Nat) (l0_5:List (S54)) (r:Bool) (w:World) (aP:Kd.C k75 w E b.length b) (aQ:b.length≤l) (aR:Kd.C k54 w ag l0_5.length l0_5) (aS:l0_5.length≤v) (h:spec_TreeOk.f k d g i j b l0_5=some r) :
  Calls Try.prog 14 #[.agg #[I L d,I L g,I L i,I L j,Y E b.length l,Y ag l0_5.length v]] w fun e w'=>e=.returned (.bool r)∧Below w.heap.size w w':=by
 have hu37:=Try.underlying37
 have hu34:=Try.underlying34
 have hu54:=Try.underlying54
 have X:=D aP
 have aT:=D aQ
 clear aP aQ
 have bj:=D aR
 have bx:=D aS
 clear aR aS
 have HB:=D (Below.refl w.heap.size w)
 have H:((spec_FairOk.f k d g i j b).bind fun Mb=>(if Mb=true then (spec_TreeOk.j0 k ((l0_5.length:Int) != (b.length:Int)) d g i j b l0_5) else (spec_TreeOk.j0 k true d g i j b l0_5)))=some r:=h
 clear h
 have aD:=D H
 clear H
 go_enter Try.func14,Try.ntmps14
 go_upto_region 1 with (first|((with_reducible refine qh_ (N:=1) rfl ?_);(try (refine q7_ (by rfl) ?_;dsimp only));refine bx_ (N:=1) (cs:=#[I L d,I L g,I L i,I L j,Y E b.length l,Y ag l0_5.length v]) (t:=37) ?_;intro Oa hg w3 hbox hb;have n_:=an_ (qd_ (pB_ HB.out) hb)<|an_ (hbox)<|an_ (bg_ hg (pB_ HB.out):w.heap.size≤Oa)<|D (bg_ hg (pB_ HB.out):w.heap.size≤Oa);clear HB;obtain ⟨HB,Ka,Mn,On⟩:=n_;clear hb hbox hg))
 (try simp only [Act.put,List.setIfInBounds_toArray,List.set_cons_zero,List.set_cons_succ])
 go_cut [18] (fun bk wc=>∃ (kq:Nat) (Jb:Bool),bk=.bool Jb∧Aside0 (spec_TreeOk.j0 kq Jb d g i j b l0_5=some r)∧Aside0 (kq≤k)∧Aside0 (wc.heap[Oa]?=some (.cells #[I L d,I L g,I L i,I L j,(Y E b.length l),(Y ag l0_5.length v)] 37 (0,0)))∧Aside0 (Below w.heap.size w wc))
 case first =>
  have H:=aD.out;clear aD;obtain ⟨Mb,aU,H⟩:=bs_.mp H;(try dsimp only at H);have A4:=D aU;clear aU
  by_cases c5:Mb=true
  ·subst c5
   rw [if_pos rfl] at H;have H':=D H;clear H;obtain ⟨Ob,Ub,Xb,Jc,Kc,Mc,Oc,Uc,Xc,Jd,Md,Od⟩:=qm_ Ka.out
   go_wp2_with (first|((with_reducible refine qe_ (f:=38) rfl ?_);refine qp_ (some 7) rfl rfl Try.func38 (by kernel_rfl) rfl #[.agg #[I L d,I L g,I L i,I L j,Y E b.length l]] rfl Z24 ?_;(with_reducible refine (spec_FairOk.calls k d g i j _ _ b true _ ?side1 ?side2 A4.out).mono ?_);(case side1=>exact pC_ (Kd.C_below X.out HB.out));(case side2=>exact aT.out);rintro e w7 ⟨rfl,hb⟩;refine ⟨_,rfl,?_⟩;have n_:=an_ (qa_ (pk_ Ka.out) hb)<|D (qd_ (pB_ HB.out) hb);clear Ka HB;obtain ⟨Ka,HB⟩:=n_;(try clear hb);obtain ⟨Ud,Xd,Je,Ke,Me,Oe,Ue,Xe,Jf,Kf,Mf,Of⟩:=qm_ Ka.out))
   go_meet
   case rel=>exact ⟨_,(((l0_5.length:Int) != (b.length:Int))),Z92,H',⟨by first | omega | exact Nat.le_refl _⟩,⟨pk_ Ka.out⟩,⟨pB_ HB.out⟩⟩
  ·replace c5:=Bool.eq_false_iff.mpr c5
   subst c5;rw [if_neg (show ¬ (false=true) by decide)] at H;have H':=D H;clear H;obtain ⟨Uf,Xf,Jg,Kg,Mg,Og,Ug,Xg,Jh,Kh,Mh,Oh⟩:=qm_ Ka.out
   go_wp2_with (first|((with_reducible refine qe_ (f:=38) rfl ?_);refine qp_ (some 7) rfl rfl Try.func38 (by kernel_rfl) rfl #[.agg #[I L d,I L g,I L i,I L j,Y E b.length l]] rfl Z24 ?_;(with_reducible refine (spec_FairOk.calls k d g i j _ _ b false _ ?side1 ?side2 A4.out).mono ?_);(case side1=>exact pC_ (Kd.C_below X.out HB.out));(case side2=>exact aT.out);rintro e bC ⟨rfl,hb⟩;refine ⟨_,rfl,?_⟩;have n_:=an_ (qa_ (pk_ Ka.out) hb)<|D (qd_ (pB_ HB.out) hb);clear Ka HB;obtain ⟨Ka,HB⟩:=n_;(try clear hb)))
   go_meet
   case rel=>exact ⟨_,(true),Z92,H',⟨by first | omega | exact Nat.le_refl _⟩,⟨pk_ Ka.out⟩,⟨pB_ HB.out⟩⟩
 case rest =>
  clear aD
  (try clear c1);(try clear p2);(try clear c3);(try clear c5);(try clear Ob Ub Xb Jc Kc Mc Oc Uc Xc Jd Md Od);(try clear Ud Xd Je Ke Me Oe Ue Xe Jf Kf Mf Of);(try clear Uf Xf Jg Kg Mg Og Ug Xg Jh Kh Mh Oh)
  obtain ⟨kq,Jb,rfl,HA,ah,Ka,HB⟩:=hcut
  cases kq with
  | zero=>exact absurd HA.out (by simp [spec_TreeOk.j0])
  | succ kj1 =>
   have H:=HA.out;clear HA;simp only [spec_TreeOk.j0] at H
   by_cases Z:Jb=true
   ·subst Z
    rw [if_pos rfl] at H;obtain rfl:=Option.some.inj H
    go_wp2
    go_ret;exact ⟨er_,pB_ HB.out⟩
   ·replace Z:=Bool.eq_false_iff.mpr Z
    subst Z;rw [if_neg (show ¬ (false=true) by decide)] at H;have H':=D H;clear H
    go_wp2
    go_loopg [3] kj1 (fun kq v3 w'=>∃ (a:Int),v3=I L a∧Aside0 (spec_TreeOk.l0 kq a d g i j b l0_5=some r)∧Aside0 (kq≤kj1)∧Aside0 (w'.heap[Oa]?=some (.cells #[I L d,I L g,I L i,I L j,(Y E b.length l),(Y ag l0_5.length v)] 37 (0,0)))∧Aside0 (Below w.heap.size w w'))
    case atStart=>exact ⟨(0),Z92,H',⟨Nat.le_refl _⟩,⟨pk_ Ka.out⟩,⟨pB_ HB.out⟩⟩
    case round =>
     clear H'
     (try clear c1);(try clear p2);(try clear c3);(try clear c5);(try clear Z);(try clear Ob Ub Xb Jc Kc Mc Oc Uc Xc Jd Md Od);(try clear Ud Xd Je Ke Me Oe Ue Xe Jf Kf Mf Of);(try clear Uf Xf Jg Kg Mg Og Ug Xg Jh Kh Mh Oh);(try clear p2)
     obtain ⟨a,rfl,HA,ai,Ka,HB⟩:=hrel
     cases gk with
     | zero=>exact absurd HA.out (by simp [spec_TreeOk.l0])
     | succ k2 =>
      have H:=HA.out;clear HA;simp only [spec_TreeOk.l0] at H
      by_cases W:a < (l0_5.length:Int)
      ·rw [if_pos W] at H
       have aY:decide (a < (l0_5.length:Int))=true:=decide_eq_true W;clear W
       by_cases aj:0≤a
       ·rw [if_pos aj] at H
        have bm:decide (0≤a)=true:=decide_eq_true aj;clear aj;have aE:=D H;clear H;obtain ⟨Xh,Ji,Ki,Mi,Oi,Ui,Xi,Jj,Kj,Mj,Oj,Uj⟩:=qm_ Ka.out;have an:0≤(a:Int):=od_ Z91;have ao:a < (l0_5.length:Int):=od_ Z91;obtain ⟨J,x,y,bn,aF,aG,aH,aI,aJ,aK,aZ,a0⟩:=qaz_ bj.out a an ao;cases bn;replace aF:=rc_ HB.out aF;replace aG:=rc_ HB.out aG;replace aH:=rc_ HB.out aH;replace aI:=rc_ HB.out aI;replace aJ:=rc_ HB.out aJ;replace aK:=rc_ HB.out aK;have a1:=D a0;have a2:=D aZ;clear a0 aZ;replace an:=eq_true an;replace ao:=eq_true ao
        go_upto_region 7 with (first|((with_reducible refine qh_ (N:=4) rfl ?_);(try (refine q7_ (by rfl) ?_;dsimp only));refine bx_ (N:=4) (cs:=#[I L 0,I L 0,I L 0,I L 0,I L 0,Y none 0 0]) (t:=54) ?_;intro Ja hg aL hbox hb;have n_:=an_ (qa_ (pk_ Ka.out) hb)<|an_ (qd_ (pB_ HB.out) hb)<|an_ (hbox)<|an_ (bg_ hg (pB_ HB.out):w.heap.size≤Ja)<|an_ (bg_ hg (pB_ HB.out):w.heap.size≤Ja)<|an_ (nl_ hg (pk_ Ka.out):Oa≠Ja)<|D (by rw [hg];exact Nat.ne_of_gt (qt_ (pk_ Ka.out)):Ja≠Oa);clear Ka HB;obtain ⟨Ka,HB,Ma,Un,Xn,Ua,Xj⟩:=n_;clear hb hbox hg;(try have:=Xj.out);(try have:=Ua.out);obtain ⟨Jk,Kk,Mk,Ok,Uk,Xk,Jm,Km,Mm,Om,Um,Xm⟩:=qm_ Ma.out))
        (try simp only [Act.put,List.setIfInBounds_toArray,List.set_cons_zero,List.set_cons_succ])
        go_cut [55] (fun bo wc=>∃ (kq:Nat) (Kb:Bool),bo=.bool Kb∧Aside0 (spec_TreeOk.j2 kq a Kb d g i j b l0_5 ((qc_ l0_5 a).f0) ((qc_ l0_5 a).f1.f0) ((qc_ l0_5 a).f1.f1.f0) ((qc_ l0_5 a).f1.f1.f1) ((qc_ l0_5 a).f1.f1.f2) ((qc_ l0_5 a).f1.f2)=some r)∧Aside0 (kq≤k2)∧Aside0 (wc.heap[Oa]?=some (.cells #[I L d,I L g,I L i,I L j,(Y E b.length l),(Y (some J) l0_5.length v)] 37 (0,0)))∧Aside0 (wc.heap[Ja]?=some (.cells #[I L ((qc_ l0_5 a).f0),I L ((qc_ l0_5 a).f1.f0),I L ((qc_ l0_5 a).f1.f1.f0),I L ((qc_ l0_5 a).f1.f1.f1),I L ((qc_ l0_5 a).f1.f1.f2),(Y x ((qc_ l0_5 a).f1.f2).length y)] 54 (0,0)))∧Aside0 (Below w.heap.size w wc))
        case first =>
         have H:=aE.out;clear aE
         by_cases ak:a < (b.length:Int)
         ·rw [if_pos ak] at H
          have a3:decide (a < (b.length:Int))=true:=decide_eq_true ak;clear ak;refine rw_ a3 ?_
          by_cases M:((qc_ l0_5 a).f0)=((qb_ b a).f0)
          ·rw [if_pos M] at H
           have a4:(((qc_ l0_5 a).f0) == ((qb_ b a).f0))=true:=beq_iff_eq.mpr M;have a5:(((qc_ l0_5 a).f0) != ((qb_ b a).f0))=false:=bne_eq_false_iff_eq.mpr M;clear M
           by_cases O:((qc_ l0_5 a).f1.f0)=d
           ·rw [if_pos O] at H
            have a6:(((qc_ l0_5 a).f1.f0) == d)=true:=beq_iff_eq.mpr O;have a7:(((qc_ l0_5 a).f1.f0) != d)=false:=bne_eq_false_iff_eq.mpr O;clear O;obtain ⟨Uh,a8,H⟩:=bs_.mp H;(try dsimp only at H);have bp:=D a8;clear a8;have H':=D H;clear H
            try go_wp2
            obtain ⟨ap,hq_⟩:∃ W_,W_=((((((aL.setCell ⟨Ja,0,none⟩ (I L ((qc_ l0_5 a).f0))).setCell ⟨Ja,1,none⟩ (I L ((qc_ l0_5 a).f1.f0))).setCell ⟨Ja,2,none⟩ (I L ((qc_ l0_5 a).f1.f1.f0))).setCell ⟨Ja,3,none⟩ (I L ((qc_ l0_5 a).f1.f1.f1))).setCell ⟨Ja,4,none⟩ (I L ((qc_ l0_5 a).f1.f1.f2))).setCell ⟨Ja,5,none⟩ (Y x ((qc_ l0_5 a).f1.f2).length y)):=⟨_,rfl⟩;have P:Aside0 (ap.heap[Oa]?=some (.cells #[I L d,I L g,I L i,I L j,Y E b.length l,Y (some J) l0_5.length v] 37 (0,0))):=⟨by rw [hq_];exact pP_ Ka.out⟩;have T:Aside0 (ap.heap[Ja]?=some (.cells #[I L ((qc_ l0_5 a).f0),I L ((qc_ l0_5 a).f1.f0),I L ((qc_ l0_5 a).f1.f1.f0),I L ((qc_ l0_5 a).f1.f1.f1),I L ((qc_ l0_5 a).f1.f1.f2),Y x ((qc_ l0_5 a).f1.f2).length y] 54 (0,0))):=⟨by rw [hq_];exact pP_ Ma.out⟩;have U:Aside0 (Below w.heap.size w ap):=⟨by rw [hq_];exact pB_ HB.out⟩;(try clear Ka);(try clear Ma);(try clear HB);(try rw [←hq_]);clear hq_;have Ka:=P;have Ma:=T;have HB:=U;clear P T U
            have n_:=an_ (qi_ Ka.out)<|an_ (qi_ Ma.out)<|D (ql_ HB.out)
            clear Ka Ma HB;obtain ⟨Ka,Ma,HB⟩:=n_;have z:0≤(a:Int):=od_ Z91;have A:a < (b.length:Int):=od_ Z91;obtain ⟨c,al,m,o,p,q,s,u⟩:=qac_ X.out a z A;have aa:=u;have ab:=s;have ac:=q;have ad:=p;have ae:=o;have af:=m;cases al;replace m:=rc_ HB.out m;replace o:=rc_ HB.out o;replace p:=rc_ HB.out p;replace q:=rc_ HB.out q;replace s:=rc_ HB.out s;replace u:=rc_ HB.out u;replace z:=eq_true z;replace A:=eq_true A;refine q1_ (n:=25) (S:=fun w'=>w'.cell? ⟨Ja,0,none⟩=some (I L ((qc_ l0_5 a).f0))∧w'.cell? ⟨Ja,1,none⟩=some (I L ((qc_ l0_5 a).f1.f0))∧w'.cell? ⟨Ja,2,none⟩=some (I L ((qc_ l0_5 a).f1.f1.f0))∧w'.cell? ⟨Ja,3,none⟩=some (I L ((qc_ l0_5 a).f1.f1.f1))∧w'.cell? ⟨Ja,4,none⟩=some (I L ((qc_ l0_5 a).f1.f1.f2))∧w'.cell? ⟨Ja,5,none⟩=some (Y x ((qc_ l0_5 a).f1.f2).length y)∧w'.cell? ⟨Oa,0,none⟩=some (I L d)∧w'.cell? ⟨Oa,1,none⟩=some (I L g)∧w'.cell? ⟨Oa,2,none⟩=some (I L i)∧w'.cell? ⟨Oa,3,none⟩=some (I L j)∧w'.cell? ⟨Oa,4,none⟩=some (Y (some c) b.length l)∧w'.cell? ⟨Oa,5,none⟩=some (Y (some J) l0_5.length v)∧w'.cell? (c.add ((a).toNat * 6))=some (I L ((qb_ b a).f0))∧w'.cell? ⟨(c.add ((a).toNat * 6)).block,(c.add ((a).toNat * 6)).off+1,none⟩=some (I L ((qb_ b a).f1))∧w'.cell? ⟨(c.add ((a).toNat * 6)).block,(c.add ((a).toNat * 6)).off+2,none⟩=some (.bool ((qb_ b a).f2))∧w'.cell? ⟨(c.add ((a).toNat * 6)).block,(c.add ((a).toNat * 6)).off+3,none⟩=some (I L ((qb_ b a).f3.f0))∧w'.cell? ⟨(c.add ((a).toNat * 6)).block,(c.add ((a).toNat * 6)).off+4,none⟩=some (I L ((qb_ b a).f3.f1))∧w'.cell? ⟨(c.add ((a).toNat * 6)).block,(c.add ((a).toNat * 6)).off+5,none⟩=some (I L ((qb_ b a).f3.f2))) (ds:=[]) (bz 25 0) (by kernel_rfl) rfl (by kernel_rfl) (bk6_ Ma.out (bk6_ Ka.out (re6_ HB.out af ae ad ac ab aa))) (fun hHeld=>?_);refine qn_ spec_TreeOk.tab7 spec_TreeOk.bits7 (fun HT_ HW_=>?_);generalize ap.drew=bD at Ka Ma HB m o p q s u hHeld ⊢;refine pb_ 0 ?_;refine pb_ 2 ?_;refine pb_ 3 ?_;refine pb_ 5 ?_;refine tb_ 1 rfl rfl hHeld Z38 ?_
            refine tb_ 4 rfl rfl hHeld Z38 ?_;refine pb_ 6 ?_;refine pb_ 7 ?_;refine tb_ 8 rfl rfl hHeld Z38 ?_;refine pb_ 9 ?_;refine pb_ 10 ?_;refine pb_ 11 ?_;refine pb_ 12 ?_;refine pb_ 14 ?_;refine pb_ 15 ?_;refine tb_ 13 rfl rfl hHeld Z38 ?_;refine tb_ 16 rfl rfl hHeld Z38 ?_;refine pb_ 17 ?_;refine pb_ 18 ?_;refine pb_ 19 ?_;refine pb_ 20 ?_;refine tb_ 21 rfl rfl hHeld Z38 ?_;refine oa_ 22 53 25 8388607 HT_ (fun K hK=>?_);refine goes_ Try.func38 (by kernel_rfl) rfl #[.agg #[I L ((qc_ l0_5 a).f1.f0),I L ((qc_ l0_5 a).f1.f1.f0),I L ((qc_ l0_5 a).f1.f1.f1),I L ((qc_ l0_5 a).f1.f1.f2),Y x ((qc_ l0_5 a).f1.f2).length y]] (by rfl) rfl rfl Z24 ?_;with_reducible refine (spec_FairOk.calls k2 ((qc_ l0_5 a).f1.f0) ((qc_ l0_5 a).f1.f1.f0) ((qc_ l0_5 a).f1.f1.f1) ((qc_ l0_5 a).f1.f1.f2) _ _ ((qc_ l0_5 a).f1.f2) Uh _ ?side1 ?side2 bp.out).mono ?_
            (case side1=>exact pC_ (Kd.C_below a1.out HB.out));(case side2=>exact a2.out);rintro e bE ⟨rfl,hb⟩;refine ⟨_,rfl,?_⟩
            have n_:=an_ (qa_ (pk_ Ka.out) hb)<|an_ (qa_ (pk_ Ma.out) hb)<|D (qd_ (pB_ HB.out) hb)
            clear Ka Ma HB;obtain ⟨Ka,Ma,HB⟩:=n_;refine hK.out _ _ (bk6_ Ma.out (bk6_ Ka.out (re6_ HB.out af ae ad ac ab aa))) (fun hHeld=>?_);clear hK K;refine nx_ (N:=some 53) ?_;refine pb_ 23 ?_;refine pb_ 24 ?_;refine done_ (qv_ HT_.out (by kernel_rfl)) ?_
            try go_wp2
            go_meet
            case rel=>exact ⟨_,(!Uh),Z92,H',⟨by have:=ah.out;have:=ai.out;first | omega | exact Nat.le_refl _⟩,⟨pk_ Ka.out⟩,⟨pk_ Ma.out⟩,⟨pB_ HB.out⟩⟩
           ·rw [if_neg O] at H
            have a6:(((qc_ l0_5 a).f1.f0) == d)=false:=beq_eq_false_iff_ne.mpr O;have a7:(((qc_ l0_5 a).f1.f0) != d)=true:=bne_iff_ne.mpr O;have H':=D H;clear H
            try go_wp2
            obtain ⟨aq,hq_⟩:∃ W_,W_=((((((aL.setCell ⟨Ja,0,none⟩ (I L ((qc_ l0_5 a).f0))).setCell ⟨Ja,1,none⟩ (I L ((qc_ l0_5 a).f1.f0))).setCell ⟨Ja,2,none⟩ (I L ((qc_ l0_5 a).f1.f1.f0))).setCell ⟨Ja,3,none⟩ (I L ((qc_ l0_5 a).f1.f1.f1))).setCell ⟨Ja,4,none⟩ (I L ((qc_ l0_5 a).f1.f1.f2))).setCell ⟨Ja,5,none⟩ (Y x ((qc_ l0_5 a).f1.f2).length y)):=⟨_,rfl⟩;have P:Aside0 (aq.heap[Oa]?=some (.cells #[I L d,I L g,I L i,I L j,Y E b.length l,Y (some J) l0_5.length v] 37 (0,0))):=⟨by rw [hq_];exact pP_ Ka.out⟩;have T:Aside0 (aq.heap[Ja]?=some (.cells #[I L ((qc_ l0_5 a).f0),I L ((qc_ l0_5 a).f1.f0),I L ((qc_ l0_5 a).f1.f1.f0),I L ((qc_ l0_5 a).f1.f1.f1),I L ((qc_ l0_5 a).f1.f1.f2),Y x ((qc_ l0_5 a).f1.f2).length y] 54 (0,0))):=⟨by rw [hq_];exact pP_ Ma.out⟩;have U:Aside0 (Below w.heap.size w aq):=⟨by rw [hq_];exact pB_ HB.out⟩;(try clear Ka);(try clear Ma);(try clear HB);(try rw [←hq_]);clear hq_;have Ka:=P;have Ma:=T;have HB:=U;clear P T U
            have n_:=an_ (qi_ Ka.out)<|an_ (qi_ Ma.out)<|D (ql_ HB.out)
            clear Ka Ma HB;obtain ⟨Ka,Ma,HB⟩:=n_;have z:0≤(a:Int):=od_ Z91;have A:a < (b.length:Int):=od_ Z91;obtain ⟨c,al,m,o,p,q,s,u⟩:=qac_ X.out a z A;have aa:=u;have ab:=s;have ac:=q;have ad:=p;have ae:=o;have af:=m;cases al;replace m:=rc_ HB.out m;replace o:=rc_ HB.out o;replace p:=rc_ HB.out p;replace q:=rc_ HB.out q;replace s:=rc_ HB.out s;replace u:=rc_ HB.out u;replace z:=eq_true z;replace A:=eq_true A;refine q1_ (n:=25) (S:=fun w'=>w'.cell? ⟨Ja,0,none⟩=some (I L ((qc_ l0_5 a).f0))∧w'.cell? ⟨Ja,1,none⟩=some (I L ((qc_ l0_5 a).f1.f0))∧w'.cell? ⟨Ja,2,none⟩=some (I L ((qc_ l0_5 a).f1.f1.f0))∧w'.cell? ⟨Ja,3,none⟩=some (I L ((qc_ l0_5 a).f1.f1.f1))∧w'.cell? ⟨Ja,4,none⟩=some (I L ((qc_ l0_5 a).f1.f1.f2))∧w'.cell? ⟨Ja,5,none⟩=some (Y x ((qc_ l0_5 a).f1.f2).length y)∧w'.cell? ⟨Oa,0,none⟩=some (I L d)∧w'.cell? ⟨Oa,1,none⟩=some (I L g)∧w'.cell? ⟨Oa,2,none⟩=some (I L i)∧w'.cell? ⟨Oa,3,none⟩=some (I L j)∧w'.cell? ⟨Oa,4,none⟩=some (Y (some c) b.length l)∧w'.cell? ⟨Oa,5,none⟩=some (Y (some J) l0_5.length v)∧w'.cell? (c.add ((a).toNat * 6))=some (I L ((qb_ b a).f0))∧w'.cell? ⟨(c.add ((a).toNat * 6)).block,(c.add ((a).toNat * 6)).off+1,none⟩=some (I L ((qb_ b a).f1))∧w'.cell? ⟨(c.add ((a).toNat * 6)).block,(c.add ((a).toNat * 6)).off+2,none⟩=some (.bool ((qb_ b a).f2))∧w'.cell? ⟨(c.add ((a).toNat * 6)).block,(c.add ((a).toNat * 6)).off+3,none⟩=some (I L ((qb_ b a).f3.f0))∧w'.cell? ⟨(c.add ((a).toNat * 6)).block,(c.add ((a).toNat * 6)).off+4,none⟩=some (I L ((qb_ b a).f3.f1))∧w'.cell? ⟨(c.add ((a).toNat * 6)).block,(c.add ((a).toNat * 6)).off+5,none⟩=some (I L ((qb_ b a).f3.f2))) (ds:=[]) (bz 25 0) (by kernel_rfl) rfl (by kernel_rfl) (bk6_ Ma.out (bk6_ Ka.out (re6_ HB.out af ae ad ac ab aa))) (fun hHeld=>?_);refine qn_ spec_TreeOk.tab7 spec_TreeOk.bits7 (fun HT_ HW_=>?_);generalize aq.drew=bF at Ka Ma HB m o p q s u hHeld ⊢;refine pb_ 0 ?_;refine pb_ 2 ?_;refine pb_ 3 ?_;refine pb_ 5 ?_;refine tb_ 1 rfl rfl hHeld Z38 ?_
            refine tb_ 4 rfl rfl hHeld Z38 ?_;refine pb_ 6 ?_;refine pb_ 7 ?_;refine tb_ 8 rfl rfl hHeld Z38 ?_;refine pb_ 9 ?_;refine pb_ 10 ?_;refine pb_ 11 ?_;refine pb_ 12 ?_;refine pb_ 14 ?_;refine pb_ 15 ?_;refine tb_ 13 rfl rfl hHeld Z38 ?_;refine tb_ 16 rfl rfl hHeld Z38 ?_;refine pb_ 17 ?_;refine pb_ 18 ?_;refine pb_ 19 ?_;refine ob_ 20 ?_;refine ob_ 21 ?_;refine ob_ 22 ?_;refine ob_ 23 ?_;refine pb_ 24 ?_;refine done_ (qv_ HT_.out (by kernel_rfl)) ?_
            try go_wp2
            go_meet
            case rel=>exact ⟨_,(true),Z92,H',⟨by have:=ah.out;have:=ai.out;first | omega | exact Nat.le_refl _⟩,⟨pk_ Ka.out⟩,⟨pk_ Ma.out⟩,⟨pB_ HB.out⟩⟩
          ·rw [if_neg M] at H
           have a4:(((qc_ l0_5 a).f0) == ((qb_ b a).f0))=false:=beq_eq_false_iff_ne.mpr M;have a5:(((qc_ l0_5 a).f0) != ((qb_ b a).f0))=true:=bne_iff_ne.mpr M;have H':=D H;clear H
           try go_wp2
           obtain ⟨ar,hq_⟩:∃ W_,W_=((((((aL.setCell ⟨Ja,0,none⟩ (I L ((qc_ l0_5 a).f0))).setCell ⟨Ja,1,none⟩ (I L ((qc_ l0_5 a).f1.f0))).setCell ⟨Ja,2,none⟩ (I L ((qc_ l0_5 a).f1.f1.f0))).setCell ⟨Ja,3,none⟩ (I L ((qc_ l0_5 a).f1.f1.f1))).setCell ⟨Ja,4,none⟩ (I L ((qc_ l0_5 a).f1.f1.f2))).setCell ⟨Ja,5,none⟩ (Y x ((qc_ l0_5 a).f1.f2).length y)):=⟨_,rfl⟩;have P:Aside0 (ar.heap[Oa]?=some (.cells #[I L d,I L g,I L i,I L j,Y E b.length l,Y (some J) l0_5.length v] 37 (0,0))):=⟨by rw [hq_];exact pP_ Ka.out⟩;have T:Aside0 (ar.heap[Ja]?=some (.cells #[I L ((qc_ l0_5 a).f0),I L ((qc_ l0_5 a).f1.f0),I L ((qc_ l0_5 a).f1.f1.f0),I L ((qc_ l0_5 a).f1.f1.f1),I L ((qc_ l0_5 a).f1.f1.f2),Y x ((qc_ l0_5 a).f1.f2).length y] 54 (0,0))):=⟨by rw [hq_];exact pP_ Ma.out⟩;have U:Aside0 (Below w.heap.size w ar):=⟨by rw [hq_];exact pB_ HB.out⟩;(try clear Ka);(try clear Ma);(try clear HB);(try rw [←hq_]);clear hq_;have Ka:=P;have Ma:=T;have HB:=U;clear P T U
           have n_:=an_ (qi_ Ka.out)<|an_ (qi_ Ma.out)<|D (ql_ HB.out)
           clear Ka Ma HB;obtain ⟨Ka,Ma,HB⟩:=n_;have z:0≤(a:Int):=od_ Z91;have A:a < (b.length:Int):=od_ Z91;obtain ⟨c,al,m,o,p,q,s,u⟩:=qac_ X.out a z A;have aa:=u;have ab:=s;have ac:=q;have ad:=p;have ae:=o;have af:=m;cases al;replace m:=rc_ HB.out m;replace o:=rc_ HB.out o;replace p:=rc_ HB.out p;replace q:=rc_ HB.out q;replace s:=rc_ HB.out s;replace u:=rc_ HB.out u;replace z:=eq_true z;replace A:=eq_true A;refine q1_ (n:=25) (S:=fun w'=>w'.cell? ⟨Ja,0,none⟩=some (I L ((qc_ l0_5 a).f0))∧w'.cell? ⟨Ja,1,none⟩=some (I L ((qc_ l0_5 a).f1.f0))∧w'.cell? ⟨Ja,2,none⟩=some (I L ((qc_ l0_5 a).f1.f1.f0))∧w'.cell? ⟨Ja,3,none⟩=some (I L ((qc_ l0_5 a).f1.f1.f1))∧w'.cell? ⟨Ja,4,none⟩=some (I L ((qc_ l0_5 a).f1.f1.f2))∧w'.cell? ⟨Ja,5,none⟩=some (Y x ((qc_ l0_5 a).f1.f2).length y)∧w'.cell? ⟨Oa,0,none⟩=some (I L d)∧w'.cell? ⟨Oa,1,none⟩=some (I L g)∧w'.cell? ⟨Oa,2,none⟩=some (I L i)∧w'.cell? ⟨Oa,3,none⟩=some (I L j)∧w'.cell? ⟨Oa,4,none⟩=some (Y (some c) b.length l)∧w'.cell? ⟨Oa,5,none⟩=some (Y (some J) l0_5.length v)∧w'.cell? (c.add ((a).toNat * 6))=some (I L ((qb_ b a).f0))∧w'.cell? ⟨(c.add ((a).toNat * 6)).block,(c.add ((a).toNat * 6)).off+1,none⟩=some (I L ((qb_ b a).f1))∧w'.cell? ⟨(c.add ((a).toNat * 6)).block,(c.add ((a).toNat * 6)).off+2,none⟩=some (.bool ((qb_ b a).f2))∧w'.cell? ⟨(c.add ((a).toNat * 6)).block,(c.add ((a).toNat * 6)).off+3,none⟩=some (I L ((qb_ b a).f3.f0))∧w'.cell? ⟨(c.add ((a).toNat * 6)).block,(c.add ((a).toNat * 6)).off+4,none⟩=some (I L ((qb_ b a).f3.f1))∧w'.cell? ⟨(c.add ((a).toNat * 6)).block,(c.add ((a).toNat * 6)).off+5,none⟩=some (I L ((qb_ b a).f3.f2))) (ds:=[]) (bz 25 0) (by kernel_rfl) rfl (by kernel_rfl) (bk6_ Ma.out (bk6_ Ka.out (re6_ HB.out af ae ad ac ab aa))) (fun hHeld=>?_);refine qn_ spec_TreeOk.tab7 spec_TreeOk.bits7 (fun HT_ HW_=>?_);generalize ar.drew=bG at Ka Ma HB m o p q s u hHeld ⊢;refine pb_ 0 ?_;refine pb_ 2 ?_;refine pb_ 3 ?_;refine pb_ 5 ?_;refine tb_ 1 rfl rfl hHeld Z38 ?_
           refine tb_ 4 rfl rfl hHeld Z38 ?_;refine pb_ 6 ?_;refine pb_ 7 ?_;refine tb_ 8 rfl rfl hHeld Z38 ?_;refine pb_ 9 ?_;refine pb_ 10 ?_;refine ob_ 11 ?_;refine ob_ 12 ?_;refine ob_ 13 ?_;refine ob_ 14 ?_;refine ob_ 15 ?_;refine ob_ 16 ?_;refine ob_ 17 ?_;refine pb_ 18 ?_;refine pb_ 19 ?_;refine ob_ 20 ?_;refine ob_ 21 ?_;refine ob_ 22 ?_;refine ob_ 23 ?_;refine pb_ 24 ?_;refine done_ (qv_ HT_.out (by kernel_rfl)) ?_
           try go_wp2
           go_meet
           case rel=>exact ⟨_,(true),Z92,H',⟨by have:=ah.out;have:=ai.out;first | omega | exact Nat.le_refl _⟩,⟨pk_ Ka.out⟩,⟨pk_ Ma.out⟩,⟨pB_ HB.out⟩⟩
         ·rw [if_neg ak] at H
          exact absurd H (by simp)
        case rest =>
         clear aE
         (try clear c1);(try clear p1);(try clear q1);(try clear bJ);(try clear c2);(try clear p2);(try clear c3);(try clear c5);(try clear Z);(try clear W);(try clear aY);(try clear aj);(try clear bm);(try clear bK);(try clear bL);(try clear bM);(try clear bN);(try clear bO);(try clear ak);(try clear a3);(try clear M);(try clear a4);(try clear a5);(try clear O);(try clear a6);(try clear a7);(try clear Xh Ji Ki Mi Oi Ui Xi Jj Kj Mj Oj Uj);(try clear Jk Kk Mk Ok Uk Xk Jm Km Mm Om Um Xm);(try clear Ob Ub Xb Jc Kc Mc Oc Uc Xc Jd Md Od);(try clear Ud Xd Je Ke Me Oe Ue Xe Jf Kf Mf Of);(try clear Uf Xf Jg Kg Mg Og Ug Xg Jh Kh Mh Oh);(try clear aF aG aH aI aJ aK);(try clear m o p q s u);(try clear an);(try clear z);(try clear p2);(try clear ao);(try clear A)
         obtain ⟨kq,Kb,rfl,HA,a9,Ka,Ma,HB⟩:=hcut
         cases kq with
         | zero=>exact absurd HA.out (by simp [spec_TreeOk.j2])
         | succ kj13 =>
          have H:=HA.out;clear HA;simp only [spec_TreeOk.j2] at H
          by_cases au:Kb=true
          ·subst au
           rw [if_pos rfl] at H;obtain rfl:=Option.some.inj H
           go_wp2
           go_ret;exact ⟨er_,pB_ HB.out⟩
          ·replace au:=Bool.eq_false_iff.mpr au
           subst au;rw [if_neg (show ¬ (false=true) by decide)] at H
           by_cases av:0≤a
           ·rw [if_pos av] at H
            have bP:decide (0≤a)=true:=decide_eq_true av;clear av
            by_cases aw:a < (b.length:Int)
            ·rw [if_pos aw] at H
             have bQ:decide (a < (b.length:Int))=true:=decide_eq_true aw;clear aw;obtain ⟨Xa,ba,H⟩:=bs_.mp H;(try dsimp only at H);have bq:=D ba;clear ba;have bb:=D H;clear H
             try go_wp2
             have n_:=an_ (qi_ Ka.out)<|an_ (qi_ Ma.out)<|D (ql_ HB.out)
             clear Ka Ma HB;obtain ⟨Ka,Ma,HB⟩:=n_;have aM:0≤(a:Int):=od_ Z91;have aN:a < (b.length:Int):=od_ Z91;obtain ⟨B,bs,ax,ay,az,aA,aB,aC⟩:=qac_ X.out a aM aN;have bc:=aC;have bd:=aB;have be:=aA;have bf:=az;have bg:=ay;have bh:=ax;cases bs;replace ax:=rc_ HB.out ax;replace ay:=rc_ HB.out ay;replace az:=rc_ HB.out az;replace aA:=rc_ HB.out aA;replace aB:=rc_ HB.out aB;replace aC:=rc_ HB.out aC;replace aM:=eq_true aM;replace aN:=eq_true aN;refine q1_ (n:=13) (S:=fun w'=>w'.cell? ⟨Oa,0,none⟩=some (I L d)∧w'.cell? ⟨Oa,1,none⟩=some (I L g)∧w'.cell? ⟨Oa,2,none⟩=some (I L i)∧w'.cell? ⟨Oa,3,none⟩=some (I L j)∧w'.cell? ⟨Oa,4,none⟩=some (Y (some B) b.length l)∧w'.cell? ⟨Oa,5,none⟩=some (Y (some J) l0_5.length v)∧w'.cell? ⟨Ja,0,none⟩=some (I L ((qc_ l0_5 a).f0))∧w'.cell? ⟨Ja,1,none⟩=some (I L ((qc_ l0_5 a).f1.f0))∧w'.cell? ⟨Ja,2,none⟩=some (I L ((qc_ l0_5 a).f1.f1.f0))∧w'.cell? ⟨Ja,3,none⟩=some (I L ((qc_ l0_5 a).f1.f1.f1))∧w'.cell? ⟨Ja,4,none⟩=some (I L ((qc_ l0_5 a).f1.f1.f2))∧w'.cell? ⟨Ja,5,none⟩=some (Y x ((qc_ l0_5 a).f1.f2).length y)∧w'.cell? (B.add ((a).toNat * 6))=some (I L ((qb_ b a).f0))∧w'.cell? ⟨(B.add ((a).toNat * 6)).block,(B.add ((a).toNat * 6)).off+1,none⟩=some (I L ((qb_ b a).f1))∧w'.cell? ⟨(B.add ((a).toNat * 6)).block,(B.add ((a).toNat * 6)).off+2,none⟩=some (.bool ((qb_ b a).f2))∧w'.cell? ⟨(B.add ((a).toNat * 6)).block,(B.add ((a).toNat * 6)).off+3,none⟩=some (I L ((qb_ b a).f3.f0))∧w'.cell? ⟨(B.add ((a).toNat * 6)).block,(B.add ((a).toNat * 6)).off+4,none⟩=some (I L ((qb_ b a).f3.f1))∧w'.cell? ⟨(B.add ((a).toNat * 6)).block,(B.add ((a).toNat * 6)).off+5,none⟩=some (I L ((qb_ b a).f3.f2))) (ds:=[]) (bz 13 0) (by kernel_rfl) rfl (by kernel_rfl) (bk6_ Ka.out (bk6_ Ma.out (re6_ HB.out bh bg bf be bd bc))) (fun hHeld=>?_);refine qn_ spec_TreeOk.tab9 spec_TreeOk.bits9 (fun HT_ HW_=>?_);generalize wc.drew=bR at Ka Ma HB ax ay az aA aB aC hHeld ⊢;refine pb_ 0 ?_;refine pb_ 1 ?_;refine pb_ 3 ?_;refine pb_ 7 ?_;refine tb_ 2 rfl rfl hHeld Z38 ?_
             refine pb_ 4 ?_;refine pb_ 5 ?_;refine tb_ 6 rfl rfl hHeld Z38 ?_;refine tb_ 8 rfl rfl hHeld Z38 ?_;refine oa_ 9 65 13 1023 HT_ (fun K hK=>?_);refine goes_ Try.func19 (by kernel_rfl) rfl #[.agg #[I L ((qc_ l0_5 a).f1.f0),I L ((qc_ l0_5 a).f1.f1.f0),I L ((qc_ l0_5 a).f1.f1.f1),I L ((qc_ l0_5 a).f1.f1.f2),Y x ((qc_ l0_5 a).f1.f2).length y]] (by rfl) rfl rfl Z24 ?_;with_reducible refine (spec_l19Busy.calls kj13 ((qc_ l0_5 a).f1.f0) ((qc_ l0_5 a).f1.f1.f0) ((qc_ l0_5 a).f1.f1.f1) ((qc_ l0_5 a).f1.f1.f2) _ _ ((qc_ l0_5 a).f1.f2) Xa _ ?side1 ?side2 bq.out).mono ?_
             (case side1=>exact pC_ (Kd.C_below a1.out HB.out));(case side2=>exact a2.out);rintro e bS ⟨Jo,rfl,bu,hb⟩;refine ⟨_,rfl,?_⟩
             have n_:=an_ (Kd.R_lower bu (qk_ (pB_ HB.out)))<|an_ (qa_ (pk_ Ka.out) hb)<|an_ (qa_ (pk_ Ma.out) hb)<|D (qd_ (pB_ HB.out) hb)
             clear Ka Ma HB;obtain ⟨Jn,Ka,Ma,HB⟩:=n_;obtain ⟨Ko,Mo,bi⟩:=Kd.R_slice Jn.out;(first|subst bi|obtain ⟨rfl,rfl⟩:=qag_ bi);refine hK.out _ _ (bk6_ Ka.out (bk6_ Ma.out (re6_ HB.out bh bg bf be bd bc))) (fun hHeld=>?_);clear hK K;refine nx_ (N:=some 65) ?_;refine pb_ 10 ?_;refine pb_ 11 ?_;refine pb_ 12 ?_;refine done_ (qv_ HT_.out (by kernel_rfl)) ?_
             go_upto_if 68 with (fail)
             have H:=bb.out;clear bb
             by_cases G:(((qb_ b a).f2) != (decide ((Xa.length:Int) > 0)))=true
             ·rw [if_pos G] at H
              have aO:(((qb_ b a).f2) != (decide ((Xa.length:Int) > 0)))=true:=G;(try (have bv:decide (((qb_ b a).f2)=(decide ((Xa.length:Int) > 0)))=false:=by simpa using G));(try (have bw:(((qb_ b a).f2) == (decide ((Xa.length:Int) > 0)))=false:=by simpa using G));(try (have bT:¬ (((qb_ b a).f2)=(decide ((Xa.length:Int) > 0))):=by simpa using G));clear G;refine rw_ aO ?_;obtain rfl:=Option.some.inj H
              go_wp2
              go_ret;exact ⟨er_,pB_ HB.out⟩
             ·rw [if_neg G] at H
              have aO:(((qb_ b a).f2) != (decide ((Xa.length:Int) > 0)))=false:=by simpa using G
              (try (have bv:decide (((qb_ b a).f2)=(decide ((Xa.length:Int) > 0)))=true:=by simpa using G));(try (have bw:(((qb_ b a).f2) == (decide ((Xa.length:Int) > 0)))=true:=by simpa using G));clear G;refine rw_ aO ?_;have H':=D H;clear H
              go_wp2
              go_roundg kj13
              case measure=>have:=ah.out;have:=ai.out;have:=a9.out;omega
              case rel=>exact ⟨(wrap64 (a+1)),Z92,H',⟨by have:=ah.out;have:=ai.out;have:=a9.out;omega⟩,⟨pk_ Ka.out⟩,⟨pB_ HB.out⟩⟩
            ·rw [if_neg aw] at H
             exact absurd H (by simp)
           ·rw [if_neg av] at H
            exact absurd H (by simp)
       ·rw [if_neg aj] at H
        exact absurd H (by simp)
      ·rw [if_neg W] at H
       have aY:decide (a < (l0_5.length:Int))=false:=decide_eq_false W;clear W;obtain rfl:=Option.some.inj H;obtain ⟨Oo,Uo,Xo,Jp,Kp,Mp,Op,Up,Xp,Jq,Kq,Mq⟩:=qm_ Ka.out
       go_wp2
       go_ret;exact ⟨er_,pB_ HB.out⟩
def spec_ChargeOk.f (a b c:Int):Option (Bool):=(spec_l13All.f a b c 1 2000).bind fun Kn=>(some Kn)
theorem spec_ChargeOk.calls (a b c:Int) (r:Bool) (w:World) (h:spec_ChargeOk.f a b c=some r) :
  Calls Try.prog 15 #[.agg #[I L a,I L b,I L c]] w fun e w'=>e=.returned (.bool r)∧Below w.heap.size w w':=by
 have hu31:=Try.underlying31
 have HB:=D (Below.refl w.heap.size w)
 have H:((spec_l13All.f a b c 1 2000).bind fun g=>(some g))=some r:=h
 clear h
 obtain ⟨g,i,H⟩:=bs_.mp H
 (try dsimp only at H)
 have k:=D i
 clear i
 obtain rfl:=Option.some.inj H
 go_enter Try.func15,Try.ntmps15
 go_wp2_with (first|((with_reducible refine qh_ (N:=1) rfl ?_);refine bx_ (N:=1) (cs:=#[I L a,I L b,I L c]) (t:=31) ?_;intro j hg l hbox hb;have n_:=an_ (qd_ (pB_ HB.out) hb)<|an_ (hbox)<|an_ (bg_ hg (pB_ HB.out):w.heap.size≤j)<|D (bg_ hg (pB_ HB.out):w.heap.size≤j);clear HB;obtain ⟨HB,d,m,n⟩:=n_;clear hb hbox hg;obtain ⟨o,p,q,s,u,v⟩:=q0_ d.out)|((with_reducible refine qe_ (f:=39) rfl ?_);refine qp_ (some 4) rfl rfl Try.func39 (by kernel_rfl) rfl #[.agg #[I L a,I L b,I L c],I L 1,I L 2000] rfl Z24 ?_;(with_reducible refine (spec_l13All.calls a b c 1 2000 g _ k.out).mono ?_);rintro e x ⟨rfl,hb⟩;refine ⟨_,rfl,?_⟩;have n_:=an_ (qa_ (pk_ d.out) hb)<|D (qd_ (pB_ HB.out) hb);clear d HB;obtain ⟨d,HB⟩:=n_;(try clear hb)))
 go_ret
 exact ⟨er_,pB_ HB.out⟩
end Go.Proofs.Ytjhgkonacdimfac.PFnExactTreeServe
