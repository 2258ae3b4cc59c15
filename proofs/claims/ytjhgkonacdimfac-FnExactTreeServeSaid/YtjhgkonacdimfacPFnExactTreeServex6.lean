-- by a program of this session's, over the kit's words
import Derived.Test.YtjhgkonacdimfacPZFnExactTreeServe
import Derived.Test.YtjhgkonacdimfacPFnExactTreeServex0
import Derived.Test.YtjhgkonacdimfacPFnExactTreeServex1
import Derived.Test.YtjhgkonacdimfacPFnExactTreeServex3
import Derived.Test.YtjhgkonacdimfacPFnExactTreeServex5
namespace Go.Proofs.Ytjhgkonacdimfac.PFnExactTreeServe
open Go.RowKit Go.Proofs.YtjhgkonacdimfacW.PrintWords Go.Proofs.YtjhgkonacdimfacW.PrintLast Go.Proofs.YtjhgkonacdimfacW.PrintMore Go.Proofs.YtjhgkonacdimfacV Go.Proofs.Ytjhgkonacdimfac.ZFnExactTreeServe
open Go.Value renaming int → I, slice → Y
open Go.IntKind renaming i64 → L
open Aside0 renaming mk → D
open Option renaming bind_eq_some_iff → bs_
attribute [local go_sem] qam_ qak_ qaw_ qav_ qae_ qad_ qal_ qaj_
set_option linter.unusedVariables false
set_option linter.unusedSimpArgs false
set_option maxHeartbeats 8000000
set_option maxRecDepth 100000
mutual
def spec_Finish.j0:Nat→Int→Bool→Int→Int→Int→Int→Int→Int→Option (Int×Int×Int×Bool)
 | 0,_,_,_,_,_,_,_,_=>none
 | k+1,c,h,i,j,l,m,n,o=>if h=true then (some (0,0,0,false)) else ((spec_l13List.f i j l).bind fun p=>((spec_l13List.f m n o).bind fun q=>(spec_Finish.l0 k c p q 0)))
def spec_Finish.l0:Nat→Int→List Int→List Int→Int→Option (Int×Int×Int×Bool)
 | 0,_,_,_,_=>none
 | k+1,c,b,d,a=>if a < 3 then (if 0≤a then (if a < (b.length:Int) then (if a < (d.length:Int) then ((spec_Stride.f c).bind fun r=>(spec_Finish.l0 k c (b.set (a:Int).toNat (wrap64 ((rd b a)+(wrap64 ((rd d a) * r))))) d (wrap64 (a+1)))) else (none)) else (none)) else (none)) else ((spec_l13Of.f b).bind fun e=>((spec_TagOk.f e.1 e.2.1 e.2.2).bind fun s=>(if s=true then ((spec_l13Of.f b).bind fun g=>(some (g.1,g.2.1,g.2.2,true))) else (some (0,0,0,false)))))
end
def spec_Finish.f (k:Nat) (a b c d e g h:Int):Option (Int×Int×Int×Bool):=(spec_TagOk.f a b c).bind fun i=>(if i=true then ((spec_ChargeOk.f d e g).bind fun j=>(if j=true then ((spec_Stride.f h).bind fun l=>(spec_Finish.j0 k h (l == 0) a b c d e g)) else (spec_Finish.j0 k h true a b c d e g))) else (spec_Finish.j0 k h true a b c d e g))
def spec_Finish.T8:Bool×List (List Nat×List Nat):=(true,[([],[]),([],[]),([],[]),([],[]),([2,3],[2,3]),([4],[4]),([],[]),([],[]),([6,7],[6,7]),([8],[8]),([],[]),([10],[10]),([9,11],[9,11]),([5,12],[5,12]),([0,1,0,1,2,3,4,5,6,7,8,9,10,11,12,13],[0,1]),([14,13,11,0,1,2,3,4,5,6,7,8,9,10,11,12,13],[13,14])])
def spec_Finish.B8:List Nat:=[0,0,0,0,12,28,0,0,192,448,0,1024,4032,8188,16383,32767]
theorem spec_Finish.tab8:rtab .any (opsOf Try.f45 8)=spec_Finish.T8:=by kernel_rfl
theorem spec_Finish.bits8:q3_ spec_Finish.T8.2 spec_Finish.B8=true:=by kernel_rfl
theorem spec_Finish.calls (k:Nat) (a b c g j l m o q r:Int) (s:Bool) (w:World) (h:spec_Finish.f k a b c g j l m=some (o,q,r,s)) :
  Calls Try.prog 45 #[.agg #[I L a,I L b,I L c],.agg #[I L g,I L j,I L l],I L m] w fun e w'=>e=.returned (.tuple #[.agg #[I L o,I L q,I L r],.bool s])∧Below w.heap.size w w':=by
 have hu31:=Try.underlying31
 have HB:=D (Below.refl w.heap.size w)
 have H:((spec_TagOk.f a b c).bind fun Ud=>(if Ud=true then ((spec_ChargeOk.f g j l).bind fun Xd=>(if Xd=true then ((spec_Stride.f m).bind fun Oc=>(spec_Finish.j0 k m (Oc == 0) a b c g j l)) else (spec_Finish.j0 k m true a b c g j l))) else (spec_Finish.j0 k m true a b c g j l)))=some (o,q,r,s):=h
 clear h
 have J:=D H
 clear H
 go_enter Try.func45,Try.ntmps45
 go_upto_region 1 with (first|((with_reducible refine qh_ (N:=3) rfl ?_);refine bx_ (N:=3) (cs:=#[I L a,I L b,I L c]) (t:=31) ?_;intro Ob hg w5 hbox hb;have n_:=an_ (qd_ (pB_ HB.out) hb)<|an_ (hbox)<|an_ (bg_ hg (pB_ HB.out):w.heap.size≤Ob)<|D (bg_ hg (pB_ HB.out):w.heap.size≤Ob);clear HB;obtain ⟨HB,Ka,Mq,Jm⟩:=n_;clear hb hbox hg)|((with_reducible refine qh_ (N:=4) rfl ?_);refine bx_ (N:=4) (cs:=#[I L g,I L j,I L l]) (t:=31) ?_;intro Xa hg w6 hbox hb;have n_:=an_ (qa_ (pk_ Ka.out) hb)<|an_ (qd_ (pB_ HB.out) hb)<|an_ (hbox)<|an_ (bg_ hg (pB_ HB.out):w.heap.size≤Xa)<|an_ (bg_ hg (pB_ HB.out):w.heap.size≤Xa)<|an_ (nl_ hg (pk_ Ka.out):Ob≠Xa)<|D (by rw [hg];exact Nat.ne_of_gt (qt_ (pk_ Ka.out)):Xa≠Ob);clear Ka HB;obtain ⟨Ka,HB,Ja,Oq,Km,Uc,Xc⟩:=n_;clear hb hbox hg)|((with_reducible refine qh_ (N:=6) rfl ?_);refine bx_ (N:=6) (cs:=#[I L 0,I L 0,I L 0]) (t:=31) ?_;intro Kb hg w7 hbox hb;have n_:=an_ (qa_ (pk_ Ka.out) hb)<|an_ (qa_ (pk_ Ja.out) hb)<|an_ (qd_ (pB_ HB.out) hb)<|an_ (hbox)<|an_ (bg_ hg (pB_ HB.out):w.heap.size≤Kb)<|an_ (bg_ hg (pB_ HB.out):w.heap.size≤Kb)<|an_ (nl_ hg (pk_ Ka.out):Ob≠Kb)<|an_ (ng_ hg (pk_ Ka.out):Kb≠Ob)<|an_ (nl_ hg (pk_ Ja.out):Xa≠Kb)<|D (by rw [hg];exact Nat.ne_of_gt (qt_ (pk_ Ja.out)):Kb≠Xa);clear Ka Ja HB;obtain ⟨Ka,Ja,HB,Ma,Uq,Mm,Ub,Xb,Jc,Kc⟩:=n_;clear hb hbox hg))
 (try simp only [Act.put,List.setIfInBounds_toArray,List.set_cons_zero,List.set_cons_succ])
 go_cut [23] (fun aw wc=>∃ (kq:Nat) (Jd:Bool),aw=.bool Jd∧Aside0 (spec_Finish.j0 kq m Jd a b c g j l=some (o,q,r,s))∧Aside0 (kq≤k)∧Aside0 (wc.heap[Ob]?=some (.cells #[I L a,I L b,I L c] 31 (0,0)))∧Aside0 (wc.heap[Xa]?=some (.cells #[I L g,I L j,I L l] 31 (0,0)))∧Aside0 (wc.heap[Kb]?=some (.cells #[I L 0,I L 0,I L 0] 31 (0,0)))∧Aside0 (Below w.heap.size w wc))
 case first =>
  have H:=J.out;clear J;obtain ⟨Ud,aa,H⟩:=bs_.mp H;(try dsimp only at H);have M:=D aa;clear aa
  by_cases c9:Ud=true
  ·subst c9
   rw [if_pos rfl] at H;obtain ⟨Xd,ab,H⟩:=bs_.mp H;(try dsimp only at H);have ac:=D ab;clear ab
   by_cases u:Xd=true
   ·subst u
    rw [if_pos rfl] at H;obtain ⟨Oc,ad,H⟩:=bs_.mp H;(try dsimp only at H);have ax:=D ad;clear ad;have H':=D H;clear H;(try have:=Uc.out);(try have:=Xc.out);(try have:=Ub.out);(try have:=Xb.out);obtain ⟨Ue,Xe,Jf,Kf,Mf,Of⟩:=q0_ Ka.out
    go_wp2_with (first|((with_reducible refine qe_ (f:=65) rfl ?_);refine qp_ (some 12) rfl rfl Try.func65 (by kernel_rfl) rfl #[.agg #[I L a,I L b,I L c]] rfl Z24 ?_;(with_reducible refine (spec_TagOk.calls a b c true _ M.out).mono ?_);rintro e aZ ⟨rfl,hb⟩;refine ⟨_,rfl,?_⟩;have n_:=an_ (qa_ (pk_ Ka.out) hb)<|an_ (qa_ (pk_ Ja.out) hb)<|an_ (qa_ (pk_ Ma.out) hb)<|D (qd_ (pB_ HB.out) hb);clear Ka Ja Ma HB;obtain ⟨Ka,Ja,Ma,HB⟩:=n_;(try clear hb);(try have:=Jc.out);(try have:=Kc.out);obtain ⟨Uf,Xf,Jg,Kg,Mg,Og⟩:=q0_ Ja.out)|(go_at_call 15;(with_reducible refine (spec_ChargeOk.calls g j l true _ ac.out).mono ?_);rintro e a0 ⟨rfl,hb⟩;have n_:=an_ (qa_ (pk_ Ka.out) hb)<|an_ (qa_ (pk_ Ja.out) hb)<|an_ (qa_ (pk_ Ma.out) hb)<|D (qd_ (pB_ HB.out) hb);clear Ka Ja Ma HB;obtain ⟨Ka,Ja,Ma,HB⟩:=n_;(try clear hb))|(go_at_call 64;(with_reducible refine (spec_Stride.calls m Oc _ ax.out).mono ?_);rintro e w' ⟨rfl,⟨nd,rfl⟩⟩))
    go_meet
    case rel=>exact ⟨_,((Oc == 0)),Z92,H',⟨by first | omega | exact Nat.le_refl _⟩,⟨pk_ Ka.out⟩,⟨pk_ Ja.out⟩,⟨pk_ Ma.out⟩,⟨pB_ HB.out⟩⟩
   ·replace u:=Bool.eq_false_iff.mpr u
    subst u;rw [if_neg (show ¬ (false=true) by decide)] at H;have H':=D H;clear H;(try have:=Uc.out);(try have:=Xc.out);(try have:=Ub.out);(try have:=Xb.out);obtain ⟨Ug,Xg,Jh,Kh,Mh,Oh⟩:=q0_ Ka.out
    go_wp2_with (first|((with_reducible refine qe_ (f:=65) rfl ?_);refine qp_ (some 12) rfl rfl Try.func65 (by kernel_rfl) rfl #[.agg #[I L a,I L b,I L c]] rfl Z24 ?_;(with_reducible refine (spec_TagOk.calls a b c true _ M.out).mono ?_);rintro e a1 ⟨rfl,hb⟩;refine ⟨_,rfl,?_⟩;have n_:=an_ (qa_ (pk_ Ka.out) hb)<|an_ (qa_ (pk_ Ja.out) hb)<|an_ (qa_ (pk_ Ma.out) hb)<|D (qd_ (pB_ HB.out) hb);clear Ka Ja Ma HB;obtain ⟨Ka,Ja,Ma,HB⟩:=n_;(try clear hb);(try have:=Jc.out);(try have:=Kc.out);obtain ⟨Uh,Xh,Ji,Ki,Mi,Oi⟩:=q0_ Ja.out)|(go_at_call 15;(with_reducible refine (spec_ChargeOk.calls g j l false _ ac.out).mono ?_);rintro e a3 ⟨rfl,hb⟩;have n_:=an_ (qa_ (pk_ Ka.out) hb)<|an_ (qa_ (pk_ Ja.out) hb)<|an_ (qa_ (pk_ Ma.out) hb)<|D (qd_ (pB_ HB.out) hb);clear Ka Ja Ma HB;obtain ⟨Ka,Ja,Ma,HB⟩:=n_;(try clear hb)))
    go_meet
    case rel=>exact ⟨_,(true),Z92,H',⟨by first | omega | exact Nat.le_refl _⟩,⟨pk_ Ka.out⟩,⟨pk_ Ja.out⟩,⟨pk_ Ma.out⟩,⟨pB_ HB.out⟩⟩
  ·replace c9:=Bool.eq_false_iff.mpr c9
   subst c9;rw [if_neg (show ¬ (false=true) by decide)] at H;have H':=D H;clear H;(try have:=Uc.out);(try have:=Xc.out);(try have:=Ub.out);(try have:=Xb.out);obtain ⟨Ui,Xi,Jj,Kj,Mj,Oj⟩:=q0_ Ka.out
   go_wp2_with (first|((with_reducible refine qe_ (f:=65) rfl ?_);refine qp_ (some 12) rfl rfl Try.func65 (by kernel_rfl) rfl #[.agg #[I L a,I L b,I L c]] rfl Z24 ?_;(with_reducible refine (spec_TagOk.calls a b c false _ M.out).mono ?_);rintro e a4 ⟨rfl,hb⟩;refine ⟨_,rfl,?_⟩;have n_:=an_ (qa_ (pk_ Ka.out) hb)<|an_ (qa_ (pk_ Ja.out) hb)<|an_ (qa_ (pk_ Ma.out) hb)<|D (qd_ (pB_ HB.out) hb);clear Ka Ja Ma HB;obtain ⟨Ka,Ja,Ma,HB⟩:=n_;(try clear hb)))
   go_meet
   case rel=>exact ⟨_,(true),Z92,H',⟨by first | omega | exact Nat.le_refl _⟩,⟨pk_ Ka.out⟩,⟨pk_ Ja.out⟩,⟨pk_ Ma.out⟩,⟨pB_ HB.out⟩⟩
 case rest =>
  clear J
  (try clear c1);(try clear c2);(try clear p2);(try clear c4);(try clear c6);(try clear c9);(try clear u);(try clear az);(try clear aA);(try clear aB);(try clear aC);(try clear aD);(try clear aE);(try clear aF);(try clear aG);(try clear Ue Xe Jf Kf Mf Of);(try clear Uf Xf Jg Kg Mg Og);(try clear Ug Xg Jh Kh Mh Oh);(try clear Uh Xh Ji Ki Mi Oi);(try clear Ui Xi Jj Kj Mj Oj)
  obtain ⟨kq,Jd,rfl,HA,af,Ka,Ja,Ma,HB⟩:=hcut
  cases kq with
  | zero=>exact absurd HA.out (by simp [spec_Finish.j0])
  | succ kj3 =>
   have H:=HA.out;clear HA;simp only [spec_Finish.j0] at H
   by_cases y:Jd=true
   ·subst y
    rw [if_pos rfl] at H;simp only [Option.some.injEq,Prod.mk.injEq] at H;obtain ⟨rfl,rfl,rfl,rfl⟩:=H;(try have:=Xb.out);(try have:=Ub.out);(try have:=Kc.out);(try have:=Jc.out);obtain ⟨Om,Um,Xm,Jn,Kn,Mn⟩:=q0_ Ma.out
    go_wp2
    refine bodyPost_ret (q2_ rfl _ _ Kb 31 #[I L 0,I L 0,I L 0] (0,0) _ rfl Z9 Try.underlying31 rfl (by kernel_rfl)) rfl ?_;exact ⟨er_,pB_ HB.out⟩
   ·replace y:=Bool.eq_false_iff.mpr y
    subst y;rw [if_neg (show ¬ (false=true) by decide)] at H;obtain ⟨Uj,ag,H⟩:=bs_.mp H;(try dsimp only at H);have aH:=D ag;clear ag;obtain ⟨Mb,ah,H⟩:=bs_.mp H;(try dsimp only at H);have aI:=D ah;clear ah;have H':=D H;clear H;(try have:=Uc.out);(try have:=Xc.out);(try have:=Ub.out);(try have:=Xb.out);obtain ⟨On,Un,Xn,Jo,Ko,Mo⟩:=q0_ Ka.out
    go_wp2_with (first|((with_reducible refine qe_ (f:=66) rfl ?_);refine qp_ (some 26) rfl rfl Try.func66 (by kernel_rfl) rfl #[.agg #[I L a,I L b,I L c]] rfl Z24 ?_;(with_reducible refine (spec_l13List.calls a b c Uj _ aH.out).mono ?_);rintro e a5 ⟨Xj,rfl,v,hb⟩;refine ⟨_,rfl,?_⟩;have n_:=an_ (Kd.R_lower v (qk_ (pB_ HB.out)))<|an_ (qa_ (pk_ Ka.out) hb)<|an_ (qa_ (pk_ Ja.out) hb)<|an_ (qa_ (pk_ Ma.out) hb)<|D (qd_ (pB_ HB.out) hb);clear Ka Ja Ma HB;obtain ⟨Mc,Ka,Ja,Ma,HB⟩:=n_;(try clear hb);(try clear v);(try have:=Jc.out);(try have:=Kc.out);obtain ⟨Oo,Uo,Xo,Jp,Kp,Mp⟩:=q0_ Ja.out)|((with_reducible refine qe_ (f:=66) rfl ?_);refine qp_ (some 28) rfl rfl Try.func66 (by kernel_rfl) rfl #[.agg #[I L g,I L j,I L l]] rfl Z24 ?_;(with_reducible refine (spec_l13List.calls g j l Mb _ aI.out).mono ?_);rintro e a6 ⟨Jk,rfl,v,hb⟩;refine ⟨_,rfl,?_⟩;have n_:=an_ (Kd.R_elder' (pR_ Mc.out) (Kd.R_base v) hb)<|an_ (Kd.R_lower (nw_ v (pR_ Mc.out)) (qk_ (pB_ HB.out)))<|an_ (qa_ (pk_ Ka.out) hb)<|an_ (qa_ (pk_ Ja.out) hb)<|an_ (qa_ (pk_ Ma.out) hb)<|D (qd_ (pB_ HB.out) hb);clear Mc Ka Ja Ma HB;obtain ⟨Mc,Op,Ka,Ja,Ma,HB⟩:=n_;(try clear hb);(try clear v)))
    go_loopg [10] kj3 (fun kq aJ w'=>∃ (d:List Int) (Oa:Int),aJ=I L Oa∧Aside0 (spec_Finish.l0 kq m d Mb Oa=some (o,q,r,s))∧Aside0 (kq≤kj3)∧Aside0 (Kd.R (Kd.int .i64) 3 w' w.heap.size (fun k_=>some k_≠(Jk:Value).ownBlock) Xj d)∧Aside0 (Kd.R (Kd.int .i64) 3 w' w.heap.size (fun k_=>some k_≠(Xj:Value).ownBlock) Jk Mb)∧Aside0 (w'.heap[Ob]?=some (.cells #[I L a,I L b,I L c] 31 (0,0)))∧Aside0 (w'.heap[Xa]?=some (.cells #[I L g,I L j,I L l] 31 (0,0)))∧Aside0 (w'.heap[Kb]?=some (.cells #[I L 0,I L 0,I L 0] 31 (0,0)))∧Aside0 (Below w.heap.size w w'))
    case atStart=>exact ⟨(Uj),(0),Z92,H',⟨Nat.le_refl _⟩,⟨pR_ (Kd.R_mono Mc.out (fun _ hk=>hk.2))⟩,⟨pR_ (Kd.R_mono Op.out (fun _ hk=>hk.2))⟩,⟨pk_ Ka.out⟩,⟨pk_ Ja.out⟩,⟨pk_ Ma.out⟩,⟨pB_ HB.out⟩⟩
    case round =>
     clear H'
     (try clear c1);(try clear c2);(try clear p2);(try clear c3);(try clear c4);(try clear c6);(try clear c9);(try clear u);(try clear az);(try clear aA);(try clear aB);(try clear aC);(try clear aD);(try clear aE);(try clear aF);(try clear aG);(try clear y);(try clear a7);(try clear a8);(try clear a9);(try clear ba);(try clear bb);(try clear Ue Xe Jf Kf Mf Of);(try clear Uf Xf Jg Kg Mg Og);(try clear Ug Xg Jh Kh Mh Oh);(try clear Uh Xh Ji Ki Mi Oi);(try clear Ui Xi Jj Kj Mj Oj);(try clear Om Um Xm Jn Kn Mn);(try clear On Un Xn Jo Ko Mo);(try clear Oo Uo Xo Jp Kp Mp);(try clear p2)
     obtain ⟨d,Oa,rfl,HA,ai,Ua,Jb,Ka,Ja,Ma,HB⟩:=hrel
     cases gk with
     | zero=>exact absurd HA.out (by simp [spec_Finish.l0])
     | succ k2 =>
      have H:=HA.out;clear HA;simp only [spec_Finish.l0] at H
      by_cases x:Oa < 3
      ·rw [if_pos x] at H
       have aK:decide (Oa < 3)=true:=decide_eq_true x;clear x
       by_cases A:0≤Oa
       ·rw [if_pos A] at H
        have bc:decide (0≤Oa)=true:=decide_eq_true A;clear A
        by_cases B:Oa < (d.length:Int)
        ·rw [if_pos B] at H
         have bd:decide (Oa < (d.length:Int))=true:=decide_eq_true B;clear B
         by_cases E:Oa < (Mb.length:Int)
         ·rw [if_pos E] at H
          have be:decide (Oa < (Mb.length:Int))=true:=decide_eq_true E;clear E;obtain ⟨Md,ak,H⟩:=bs_.mp H;(try dsimp only at H);have aL:=D ak;clear ak;obtain ⟨al,z⟩:∃ y_:List Int,y_=(d.set (Oa:Int).toNat (wrap64 ((rd d Oa)+(wrap64 ((rd Mb Oa) * Md))))):=⟨_,rfl⟩
          replace H:(spec_Finish.l0 k2 m al Mb (wrap64 (Oa+1)))=some (o,q,r,s):=by first|(rw [z];with_reducible exact H)|(have H2_:=(Option.bind_some _ _).symm.trans H;rw [z];with_reducible exact H2_)|(have H2_:=(Option.bind_some _ _).symm.trans H;with_reducible exact H2_)|with_reducible exact H|(rw [z];exact H)|exact H
          have aM:=D z;clear z;have H':=D H;clear H
          try go_wp2
          have n_:=an_ (Kd.R_drew Ua.out)<|an_ (Kd.R_drew Jb.out)<|an_ (qi_ Ka.out)<|an_ (qi_ Ja.out)<|an_ (qi_ Ma.out)<|D (ql_ HB.out)
          clear Ua Jb Ka Ja Ma HB;obtain ⟨Ua,Jb,Ka,Ja,Ma,HB⟩:=n_;obtain ⟨Xq,Jr,am⟩:=Kd.R_slice Ua.out;(first|subst am|obtain ⟨rfl,rfl⟩:=qag_ am);have O:0≤(Oa:Int):=od_ Z91;have P:Oa < (d.length:Int):=od_ Z91;obtain ⟨aN,aO,T⟩:=Kd.at_int (Kd.R_reads' Ua.out).2.2 Oa O P;cases aO;replace O:=eq_true O;replace P:=eq_true P;obtain ⟨Kr,Mr,an⟩:=Kd.R_slice Jb.out;(first|subst an|obtain ⟨rfl,rfl⟩:=qag_ an);have U:0≤(Oa:Int):=od_ Z91;have W:Oa < (Mb.length:Int):=od_ Z91;obtain ⟨aP,aQ,ao⟩:=Kd.at_int (Kd.R_reads' Jb.out).2.2 Oa U W;cases aQ;replace U:=eq_true U;replace W:=eq_true W;refine q1_ (n:=16) (S:=fun w'=>w'.cell? (aN.add (Oa).toNat)=some (I L (rd d Oa))∧w'.cell? (aP.add (Oa).toNat)=some (I L (rd Mb Oa))) (ds:=[15]) (bz 16 0) (by kernel_rfl) rfl (by kernel_rfl) ⟨T,ao⟩ (fun hHeld=>?_);refine qn_ spec_Finish.tab8 spec_Finish.bits8 (fun HT_ HW_=>?_);generalize wr.drew=bf at Ua Jb Ka Ja Ma HB T ao hHeld ⊢;refine pb_ 0 ?_;refine pb_ 1 ?_;refine pb_ 2 ?_;refine pb_ 3 ?_;refine pb_ 4 ?_;refine pb_ 6 ?_;refine pb_ 7 ?_;refine pb_ 8 ?_;refine pb_ 10 ?_;refine ta_ 5 38 16 1535 HT_ HW_ rfl rfl hHeld (by rintro w' ⟨s0,s1⟩;go_simp;with_reducible rfl) ?_;refine ta_ 9 42 16 2047 HT_ HW_ rfl rfl hHeld (by rintro w' ⟨s0,s1⟩;go_simp;with_reducible rfl) ?_;refine oa_ 11 44 16 4095 HT_ (fun K hK=>?_);refine goes_ Try.func64 (by kernel_rfl) rfl #[I L m] (by rfl) rfl rfl Z24 ?_;with_reducible refine (spec_Stride.calls m Md _ aL.out).mono ?_
          rintro e w' ⟨rfl,⟨nd,rfl⟩⟩;refine ⟨_,rfl,?_⟩;have X:0≤(Oa:Int):=od_ Z91;have Z:(Oa:Int) < ((d.length:Int):Int):=od_ Z91;obtain ⟨go49,Or,ap,Kk,gl49,cl49,HG49⟩:=Kd.R_form Ua.out (by omega);(first|cases ap|(injection ap with ea_ en_ ec_;(first|subst ea_|(injection ea_ with ea_;subst ea_));subst ec_;clear en_));have aR:=D Kk;have GG49:=D HG49;clear Kk gl49 HG49;(first|simp only [qz_] at T|skip);obtain ⟨bg,bh⟩:=Kd.R_celln 0 Ua.out (Oa:Int) X Z;replace X:=eq_true X;replace Z:=eq_true Z;have HP53:=Kd.R_putn Ua.out (Oa:Int) (wrap64 ((rd d Oa)+(wrap64 ((rd Mb Oa) * Md))));rw [← aM.out] at HP53;have HQ53:=D HP53;clear HP53;refine hK.out _ _ ⟨hHeld.1,hHeld.2⟩ (fun hHeld=>?_);clear hK K;refine nx_ (N:=some 44) ?_;refine pb_ 12 ?_;refine pb_ 13 ?_;refine pb_ 14 ?_;refine last_ (i:=15) (N:=none) (bz 16 65535) rfl rfl (qa4_ HT_.out (by kernel_rfl)) (by decide) (fun K hK=>?_);refine skip_ (w1:=?_) (by rfl) rfl ?_ ?_;rotate_left
          ·go_simp
           rfl
          refine hK.out _ _ ?_;clear hK K;refine done_ (qv_ HT_.out (by kernel_rfl)) ?_
          try go_wp2
          go_roundg k2
          case measure=>have:=af.out;have:=ai.out;omega
          case rel=>exact ⟨(al),(wrap64 (Oa+1)),Z92,H',⟨by have:=af.out;have:=ai.out;omega⟩,⟨pR_ HQ53.out⟩,⟨pR_ (Kd.R_mono (Kd.R_far (p:=⟨go49,(Oa:Int).toNat,none⟩) (Kd.R_mono Jb.out (fun k_ hk=>(⟨hk,fun e_=>hk (by rw [e_];rfl)⟩:_∧k_≠go49))) (fun _ hk=>hk.2) (I L (wrap64 ((rd d Oa)+(wrap64 ((rd Mb Oa) * Md)))))) (fun _ hk=>hk.1))⟩,⟨by refine pk_ ?_;refine qq_ ?_ (by have h_:=Kd.R_ne Ua.out Ka.out (by decide);intro e_;exact h_ (by rw [e_];rfl)) _;refine pk_ ?_;exact Ka.out⟩,⟨by refine pk_ ?_;refine qq_ ?_ (by have h_:=Kd.R_ne Ua.out Ja.out (by decide);intro e_;exact h_ (by rw [e_];rfl)) _;refine pk_ ?_;exact Ja.out⟩,⟨by refine pk_ ?_;refine qq_ ?_ (by have h_:=Kd.R_ne Ua.out Ma.out (by decide);intro e_;exact h_ (by rw [e_];rfl)) _;refine pk_ ?_;exact Ma.out⟩,⟨by repeat (first|(with_reducible first|exact HB.out|apply qaq_|apply qau_|apply ql_|refine qr_ ?_ aR.out|refine qr_ ?_ Jm.out|refine qr_ ?_ Km.out|refine qr_ ?_ Mm.out)|exact HB.out)⟩⟩
         ·rw [if_neg E] at H
          exact absurd H (by simp)
        ·rw [if_neg B] at H
         exact absurd H (by simp)
       ·rw [if_neg A] at H
        exact absurd H (by simp)
      ·rw [if_neg x] at H
       have aK:decide (Oa < 3)=false:=decide_eq_false x;clear x;obtain ⟨⟨Je,Ke,Me⟩,aq,H⟩:=bs_.mp H;(try dsimp only at H);have aS:=D aq;clear aq;obtain ⟨Mk,ar,H⟩:=bs_.mp H;(try dsimp only at H);have aT:=D ar;clear ar;have au:=D H;clear H;obtain ⟨Ok,Uk,aU⟩:=Kd.R_slice Ua.out;subst aU
       go_upto_if 51 with (first|((with_reducible refine qe_ (f:=67) rfl ?_);refine qp_ (some 49) rfl rfl Try.func67 (by kernel_rfl) rfl #[Y Ok d.length Uk] rfl Z24 ?_;(with_reducible refine (spec_l13Of.calls _ _ d Je Ke Me _ ?side1 ?side2 aS.out).mono ?_);(case side1=>exact pC_ ((Kd.R_reads' Ua.out).2.2));(case side2=>exact (Kd.R_reads' Ua.out).2.1);rintro e bi ⟨rfl,hb⟩;refine ⟨_,rfl,?_⟩;have n_:=an_ (Kd.R_below (pR_ Ua.out) hb)<|an_ (Kd.R_below (pR_ Jb.out) hb)<|an_ (qa_ (pk_ Ka.out) hb)<|an_ (qa_ (pk_ Ja.out) hb)<|an_ (qa_ (pk_ Ma.out) hb)<|D (qd_ (pB_ HB.out) hb);clear Ua Jb Ka Ja Ma HB;obtain ⟨Ua,Jb,Ka,Ja,Ma,HB⟩:=n_;(try clear hb))|((with_reducible refine qe_ (f:=65) rfl ?_);refine qp_ (some 50) rfl rfl Try.func65 (by kernel_rfl) rfl #[.agg #[I L Je,I L Ke,I L Me]] rfl Z24 ?_;(with_reducible refine (spec_TagOk.calls Je Ke Me Mk _ aT.out).mono ?_);rintro e bj ⟨rfl,hb⟩;refine ⟨_,rfl,?_⟩;have n_:=an_ (Kd.R_below (pR_ Ua.out) hb)<|an_ (Kd.R_below (pR_ Jb.out) hb)<|an_ (qa_ (pk_ Ka.out) hb)<|an_ (qa_ (pk_ Ja.out) hb)<|an_ (qa_ (pk_ Ma.out) hb)<|D (qd_ (pB_ HB.out) hb);clear Ua Jb Ka Ja Ma HB;obtain ⟨Ua,Jb,Ka,Ja,Ma,HB⟩:=n_;(try clear hb)))
       have H:=au.out;clear au
       by_cases G:Mk=true
       ·subst G
        rw [if_pos rfl] at H;obtain ⟨⟨Od,Oe,Xk⟩,av,H⟩:=bs_.mp H;(try dsimp only at H);have aV:=D av;clear av;simp only [Option.some.injEq,Prod.mk.injEq] at H;obtain ⟨rfl,rfl,rfl,rfl⟩:=H
        go_wp2_with (first|((with_reducible refine qe_ (f:=67) rfl ?_);refine qp_ (some 54) rfl rfl Try.func67 (by kernel_rfl) rfl #[Y Ok d.length Uk] rfl Z24 ?_;(with_reducible refine (spec_l13Of.calls _ _ d Od Oe Xk _ ?side1 ?side2 aV.out).mono ?_);(case side1=>exact pC_ ((Kd.R_reads' Ua.out).2.2));(case side2=>exact (Kd.R_reads' Ua.out).2.1);rintro e bk ⟨rfl,hb⟩;refine ⟨_,rfl,?_⟩;have n_:=an_ (Kd.R_below (pR_ Ua.out) hb)<|an_ (Kd.R_below (pR_ Jb.out) hb)<|an_ (qa_ (pk_ Ka.out) hb)<|an_ (qa_ (pk_ Ja.out) hb)<|an_ (qa_ (pk_ Ma.out) hb)<|D (qd_ (pB_ HB.out) hb);clear Ua Jb Ka Ja Ma HB;obtain ⟨Ua,Jb,Ka,Ja,Ma,HB⟩:=n_;(try clear hb);(try have:=Xb.out);(try have:=Ub.out);(try have:=Kc.out);(try have:=Jc.out);obtain ⟨Ur,Xr,Js,Ks,Ms,Os⟩:=q0_ Ma.out))
        refine bodyPost_ret (q2_ rfl _ _ Kb 31 #[I L Od,I L Oe,I L Xk] (0,0) _ rfl (by exact pP_ Ma.out) Try.underlying31 rfl (by kernel_rfl)) rfl ?_;exact ⟨er_,pB_ HB.out⟩
       ·replace G:=Bool.eq_false_iff.mpr G
        subst G;rw [if_neg (show ¬ (false=true) by decide)] at H;simp only [Option.some.injEq,Prod.mk.injEq] at H;obtain ⟨rfl,rfl,rfl,rfl⟩:=H;(try have:=Xb.out);(try have:=Ub.out);(try have:=Kc.out);(try have:=Jc.out);obtain ⟨Us,Xs,Ju,Ku,Mu,Ou⟩:=q0_ Ma.out
        go_wp2
        refine bodyPost_ret (q2_ rfl _ _ Kb 31 #[I L 0,I L 0,I L 0] (0,0) _ rfl Z9 Try.underlying31 rfl (by kernel_rfl)) rfl ?_;exact ⟨er_,pB_ HB.out⟩
mutual
def spec_Dovetail.j0:Nat→Int→Bool→Int→Int→Int→Option (Int×Int×Int)
 | 0,_,_,_,_,_=>none
 | k+1,e,i,b,c,d=>if i=true then (some (0,0,0)) else ((spec_l13List.f b c d).bind fun Up=>(spec_Dovetail.l0 k e Up 0 b c d))
def spec_Dovetail.l0:Nat→Int→List Int→Int→Int→Int→Int→Option (Int×Int×Int)
 | 0,_,_,_,_,_,_=>none
 | k+1,e,g,a,b,c,d=>if a < 3 then (if 0≤a then (if a < (g.length:Int) then ((spec_VecTop.f b c d).bind fun Xp=>(spec_Dovetail.l0 k e (g.set (a:Int).toNat (mx (rd g a) (wrap64 (Xp - e)))) (wrap64 (a+1)) b c d)) else (none)) else (none)) else ((spec_l13Of.f g).bind fun h=>(some (h.1,h.2.1,h.2.2)))
end
def spec_Dovetail.f (k:Nat) (a b c d:Int):Option (Int×Int×Int):=(spec_TagOk.f a b c).bind fun Jq=>(if Jq=true then ((spec_l13Delta.f d).bind fun Kq=>(spec_Dovetail.j0 k d (!Kq) a b c)) else (spec_Dovetail.j0 k d true a b c))
def spec_Dovetail.T7:Bool×List (List Nat×List Nat):=(true,[([],[]),([],[]),([],[]),([],[]),([2,3],[2,3]),([4],[4]),([],[]),([6],[6]),([],[]),([7,8],[7,8]),([5,9],[5,9]),([0,1,0,1,2,3,4,5,6,7,8,9,10],[0,1]),([11,10,7,0,1,2,3,4,5,6,7,8,9,10],[10,11])])
def spec_Dovetail.B7:List Nat:=[0,0,0,0,12,28,0,64,0,448,1020,2047,4095]
theorem spec_Dovetail.tab7:rtab .any (opsOf Try.f46 7)=spec_Dovetail.T7:=by kernel_rfl
theorem spec_Dovetail.bits7:q3_ spec_Dovetail.T7.2 spec_Dovetail.B7=true:=by kernel_rfl
theorem spec_Dovetail.calls (k:Nat) (d g j m q r s:Int) (w:World) (h:spec_Dovetail.f k d g j m=some (q,r,s)) :
  Calls Try.prog 46 #[.agg #[I L d,I L g,I L j],I L m] w fun e w'=>e=.returned (.agg #[I L q,I L r,I L s])∧Below w.heap.size w w':=by
 have hu31:=Try.underlying31
 have HB:=D (Below.refl w.heap.size w)
 have H:((spec_TagOk.f d g j).bind fun O=>(if O=true then ((spec_l13Delta.f m).bind fun A=>(spec_Dovetail.j0 k m (!A) d g j)) else (spec_Dovetail.j0 k m true d g j)))=some (q,r,s):=h
 clear h
 have P:=D H
 clear H
 go_enter Try.func46,Try.ntmps46
 go_upto_region 1 with (first|((with_reducible refine qh_ (N:=2) rfl ?_);refine bx_ (N:=2) (cs:=#[I L d,I L g,I L j]) (t:=31) ?_;intro o hg w4 hbox hb;have n_:=an_ (qd_ (pB_ HB.out) hb)<|an_ (hbox)<|an_ (bg_ hg (pB_ HB.out):w.heap.size≤o)<|D (bg_ hg (pB_ HB.out):w.heap.size≤o);clear HB;obtain ⟨HB,a,bd,aI⟩:=n_;clear hb hbox hg)|((with_reducible refine qh_ (N:=4) rfl ?_);refine bx_ (N:=4) (cs:=#[I L 0,I L 0,I L 0]) (t:=31) ?_;intro p hg w5 hbox hb;have n_:=an_ (qa_ (pk_ a.out) hb)<|an_ (qd_ (pB_ HB.out) hb)<|an_ (hbox)<|an_ (bg_ hg (pB_ HB.out):w.heap.size≤p)<|an_ (bg_ hg (pB_ HB.out):w.heap.size≤p)<|an_ (nl_ hg (pk_ a.out):o≠p)<|D (by rw [hg];exact Nat.ne_of_gt (qt_ (pk_ a.out)):p≠o);clear a HB;obtain ⟨a,HB,b,bf,aJ,v,x⟩:=n_;clear hb hbox hg))
 (try simp only [Act.put,List.setIfInBounds_toArray,List.set_cons_zero,List.set_cons_succ])
 go_cut [14] (fun aK wc=>∃ (kq:Nat) (B:Bool),aK=.bool B∧Aside0 (spec_Dovetail.j0 kq m B d g j=some (q,r,s))∧Aside0 (kq≤k)∧Aside0 (wc.heap[o]?=some (.cells #[I L d,I L g,I L j] 31 (0,0)))∧Aside0 (wc.heap[p]?=some (.cells #[I L 0,I L 0,I L 0] 31 (0,0)))∧Aside0 (Below w.heap.size w wc))
 case first =>
  have H:=P.out;clear P;obtain ⟨O,ab,H⟩:=bs_.mp H;(try dsimp only at H);have A6:=D ab;clear ab
  by_cases c7:O=true
  ·subst c7
   rw [if_pos rfl] at H;obtain ⟨A,ad,H⟩:=bs_.mp H;(try dsimp only at H);have A8:=D ad;clear ad;have H':=D H;clear H;(try have:=v.out);(try have:=x.out);obtain ⟨ae,af,ag,ah,ai,aj⟩:=q0_ a.out
   go_wp2_with (first|((with_reducible refine qe_ (f:=65) rfl ?_);refine qp_ (some 8) rfl rfl Try.func65 (by kernel_rfl) rfl #[.agg #[I L d,I L g,I L j]] rfl Z24 ?_;(with_reducible refine (spec_TagOk.calls d g j true _ A6.out).mono ?_);rintro e bg ⟨rfl,hb⟩;refine ⟨_,rfl,?_⟩;have n_:=an_ (qa_ (pk_ a.out) hb)<|an_ (qa_ (pk_ b.out) hb)<|D (qd_ (pB_ HB.out) hb);clear a b HB;obtain ⟨a,b,HB⟩:=n_;(try clear hb))|(go_at_call 68;(with_reducible refine (spec_l13Delta.calls m A _ A8.out).mono ?_);rintro e w' ⟨rfl,⟨nd,rfl⟩⟩))
   go_meet
   case rel=>exact ⟨_,(!A),Z92,H',⟨by first | omega | exact Nat.le_refl _⟩,⟨pk_ a.out⟩,⟨pk_ b.out⟩,⟨pB_ HB.out⟩⟩
  ·replace c7:=Bool.eq_false_iff.mpr c7
   subst c7;rw [if_neg (show ¬ (false=true) by decide)] at H;have H':=D H;clear H;(try have:=v.out);(try have:=x.out);obtain ⟨ak,al,am,an,ao,ap⟩:=q0_ a.out
   go_wp2_with (first|((with_reducible refine qe_ (f:=65) rfl ?_);refine qp_ (some 8) rfl rfl Try.func65 (by kernel_rfl) rfl #[.agg #[I L d,I L g,I L j]] rfl Z24 ?_;(with_reducible refine (spec_TagOk.calls d g j false _ A6.out).mono ?_);rintro e bh ⟨rfl,hb⟩;refine ⟨_,rfl,?_⟩;have n_:=an_ (qa_ (pk_ a.out) hb)<|an_ (qa_ (pk_ b.out) hb)<|D (qd_ (pB_ HB.out) hb);clear a b HB;obtain ⟨a,b,HB⟩:=n_;(try clear hb)))
   go_meet
   case rel=>exact ⟨_,(true),Z92,H',⟨by first | omega | exact Nat.le_refl _⟩,⟨pk_ a.out⟩,⟨pk_ b.out⟩,⟨pB_ HB.out⟩⟩
 case rest =>
  clear P
  (try clear c1);(try clear p2);(try clear c4);(try clear c6);(try clear c7);(try clear c9);(try clear aN);(try clear ae af ag ah ai aj);(try clear ak al am an ao ap)
  obtain ⟨kq,B,rfl,HA,ar,a,b,HB⟩:=hcut
  cases kq with
  | zero=>exact absurd HA.out (by simp [spec_Dovetail.j0])
  | succ kj2 =>
   have H:=HA.out;clear HA;simp only [spec_Dovetail.j0] at H
   by_cases y:B=true
   ·subst y
    rw [if_pos rfl] at H;simp only [Option.some.injEq,Prod.mk.injEq] at H;obtain ⟨rfl,rfl,rfl⟩:=H;(try have:=x.out);(try have:=v.out);obtain ⟨aO,aP,aQ,aR,aS,aT⟩:=q0_ b.out
    go_wp2
    refine bodyPost_ret (results_cell_row rfl _ _ p 31 #[I L 0,I L 0,I L 0] (0,0) _ rfl (by exact pP_ b.out) Try.underlying31 rfl (by kernel_rfl)) rfl ?_;exact ⟨er_,pB_ HB.out⟩
   ·replace y:=Bool.eq_false_iff.mpr y
    subst y;rw [if_neg (show ¬ (false=true) by decide)] at H;obtain ⟨au,av,H⟩:=bs_.mp H;(try dsimp only at H);have aU:=D av;clear av;have H':=D H;clear H;(try have:=v.out);(try have:=x.out);obtain ⟨aV,aW,aX,aY,aZ,a0⟩:=q0_ a.out
    go_wp2_with (first|((with_reducible refine qe_ (f:=66) rfl ?_);refine qp_ (some 17) rfl rfl Try.func66 (by kernel_rfl) rfl #[.agg #[I L d,I L g,I L j]] rfl Z24 ?_;(with_reducible refine (spec_l13List.calls d g j au _ aU.out).mono ?_);rintro e bi ⟨a2,rfl,aw,hb⟩;refine ⟨_,rfl,?_⟩;have n_:=an_ (Kd.R_lower aw (qk_ (pB_ HB.out)))<|an_ (qa_ (pk_ a.out) hb)<|an_ (qa_ (pk_ b.out) hb)<|D (qd_ (pB_ HB.out) hb);clear a b HB;obtain ⟨a3,a,b,HB⟩:=n_;(try clear hb);(try clear aw)))
    go_loopg [6] kj2 (fun kq v6 w'=>∃ (l:List Int) (c:Int),v6=I L c∧Aside0 (spec_Dovetail.l0 kq m l c d g j=some (q,r,s))∧Aside0 (kq≤kj2)∧Aside0 (Kd.R (Kd.int .i64) 3 w' w.heap.size (fun _=>True) a2 l)∧Aside0 (w'.heap[o]?=some (.cells #[I L d,I L g,I L j] 31 (0,0)))∧Aside0 (w'.heap[p]?=some (.cells #[I L 0,I L 0,I L 0] 31 (0,0)))∧Aside0 (Below w.heap.size w w'))
    case atStart=>exact ⟨(au),(0),Z92,H',⟨Nat.le_refl _⟩,⟨pR_ a3.out⟩,⟨pk_ a.out⟩,⟨pk_ b.out⟩,⟨pB_ HB.out⟩⟩
    case round =>
     clear H'
     (try clear c1);(try clear p2);(try clear c4);(try clear c6);(try clear c7);(try clear c9);(try clear aN);(try clear y);(try clear bj);(try clear bk);(try clear ae af ag ah ai aj);(try clear ak al am an ao ap);(try clear aO aP aQ aR aS aT);(try clear aV aW aX aY aZ a0);(try clear p2)
     obtain ⟨l,c,rfl,HA,ax,HO_5,a,b,HB⟩:=hrel
     cases gk with
     | zero=>exact absurd HA.out (by simp [spec_Dovetail.l0])
     | succ T =>
      have H:=HA.out;clear HA;simp only [spec_Dovetail.l0] at H
      by_cases u:c < 3
      ·rw [if_pos u] at H
       have a5:decide (c < 3)=true:=decide_eq_true u;clear u
       by_cases E:0≤c
       ·rw [if_pos E] at H
        have bl:decide (0≤c)=true:=decide_eq_true E;clear E
        by_cases G:c < (l.length:Int)
        ·rw [if_pos G] at H
         have bm:decide (c < (l.length:Int))=true:=decide_eq_true G;clear G;obtain ⟨J,ay,H⟩:=bs_.mp H;(try dsimp only at H);have az:=D ay;clear ay;obtain ⟨M,hji26⟩:∃ j_:Int,(mx (rd l c) (wrap64 (J - m)))=j_:=⟨_,rfl⟩
         replace H:(spec_Dovetail.l0 T m (l.set (c:Int).toNat (M)) (wrap64 (c+1)) d g j)=some (q,r,s):=by first|(rw [hji26] at H;exact H)|(simp only [hji26] at H ⊢;exact H)
         (try rw [hji26] at az);have hji26_:(if (rd l c) < (wrap64 (J - m)) then (wrap64 (J - m)) else (rd l c))=M:=hji26;obtain ⟨aA,z⟩:∃ y_:List Int,y_=(l.set (c:Int).toNat (M)):=⟨_,rfl⟩
         replace H:(spec_Dovetail.l0 T m aA (wrap64 (c+1)) d g j)=some (q,r,s):=by first|(rw [z];with_reducible exact H)|(have H2_:=(Option.bind_some _ _).symm.trans H;rw [z];with_reducible exact H2_)|(have H2_:=(Option.bind_some _ _).symm.trans H;with_reducible exact H2_)|with_reducible exact H|(rw [z];exact H)|exact H
         have a6:=D z;clear z;have H':=D H;clear H
         try go_wp2
         have n_:=an_ (Kd.R_drew HO_5.out)<|an_ (qi_ a.out)<|an_ (qi_ b.out)<|D (ql_ HB.out)
         clear HO_5 a b HB;obtain ⟨HO_5,a,b,HB⟩:=n_;obtain ⟨Ao29,co29,aB⟩:=Kd.R_slice HO_5.out;(first|subst aB|obtain ⟨rfl,rfl⟩:=qag_ aB);have U:0≤(c:Int):=od_ Z91;have W:c < (l.length:Int):=od_ Z91;obtain ⟨a7,a8,X⟩:=Kd.at_int (Kd.R_reads' HO_5.out).2.2 c U W;cases a8;replace U:=eq_true U;replace W:=eq_true W;refine q1_ (n:=13) (S:=fun w'=>w'.cell? ⟨o,0,none⟩=some (I L d)∧w'.cell? ⟨o,1,none⟩=some (I L g)∧w'.cell? ⟨o,2,none⟩=some (I L j)∧w'.cell? (a7.add (c).toNat)=some (I L (rd l c))) (ds:=[12]) (bz 13 0) (by kernel_rfl) rfl (by kernel_rfl) (bk3_ a.out X) (fun hHeld=>?_);refine qn_ spec_Dovetail.tab7 spec_Dovetail.bits7 (fun HT_ HW_=>?_);generalize wr.drew=bn at HO_5 a b HB X hHeld ⊢;refine pb_ 0 ?_;refine pb_ 1 ?_;refine pb_ 2 ?_;refine pb_ 3 ?_;refine pb_ 4 ?_;refine pb_ 8 ?_;refine tb_ 5 rfl rfl hHeld Z89 ?_;refine tb_ 6 rfl rfl hHeld Z89 ?_;refine oa_ 7 29 13 511 HT_ (fun K hK=>?_);refine goes_ Try.func44 (by kernel_rfl) rfl #[.agg #[I L d,I L g,I L j]] (by rfl) rfl rfl Z24 ?_;with_reducible refine (spec_VecTop.calls d g j J _ az.out).mono ?_
         rintro e bo ⟨rfl,hb⟩;have HS3_:=(hb.cell (World.block_lt_of_cell? _ _ (hHeld.2.2.2))).trans (hHeld.2.2.2);refine ⟨_,rfl,?_⟩
         have n_:=an_ (Kd.R_below (pR_ HO_5.out) hb)<|an_ (qa_ (pk_ a.out) hb)<|an_ (qa_ (pk_ b.out) hb)<|D (qd_ (pB_ HB.out) hb)
         clear HO_5 a b HB;obtain ⟨HO_5,a,b,HB⟩:=n_;have Z:0≤(c:Int):=od_ Z91;have aa:(c:Int) < ((l.length:Int):Int):=od_ Z91;obtain ⟨go27,co27,aC,aD,gl27,cl27,HG27⟩:=Kd.R_form HO_5.out (by omega);(first|cases aC|(injection aC with ea_ en_ ec_;(first|subst ea_|(injection ea_ with ea_;subst ea_));subst ec_;clear en_));have a9:=D aD;have GG27:=D HG27;clear aD gl27 HG27;(first|simp only [qz_] at X|skip);obtain ⟨bp,bq⟩:=Kd.R_celln 0 HO_5.out (c:Int) Z aa;replace Z:=eq_true Z;replace aa:=eq_true aa;have HP31:=Kd.R_putn HO_5.out (c:Int) M;rw [← a6.out] at HP31;have HQ31:=D HP31;clear HP31;refine hK.out _ _ (bk3_ a.out HS3_) (fun hHeld=>?_);clear hK K;refine nx_ (N:=some 29) ?_;refine pb_ 9 ?_;refine pb_ 10 ?_;refine pb_ 11 ?_;refine last_ (i:=12) (N:=none) (bz 13 8191) rfl rfl (qa4_ HT_.out (by kernel_rfl)) (by decide) (fun K hK=>?_);refine skip_ (w1:=?_) (by rfl) rfl ?_ ?_;rotate_left
         ·go_simp
          rfl
         refine hK.out _ _ ?_;clear hK K;refine done_ (qv_ HT_.out (by kernel_rfl)) ?_
         try go_wp2
         go_roundg T
         case measure=>have:=ar.out;have:=ax.out;omega
         case rel=>exact ⟨(aA),(wrap64 (c+1)),Z92,H',⟨by have:=ar.out;have:=ax.out;omega⟩,⟨pR_ HQ31.out⟩,⟨by refine pk_ ?_;refine qq_ ?_ (by have h_:=Kd.R_ne HO_5.out a.out (by decide);intro e_;exact h_ (by rw [e_];rfl)) _;refine pk_ ?_;exact a.out⟩,⟨by refine pk_ ?_;refine qq_ ?_ (by have h_:=Kd.R_ne HO_5.out b.out (by decide);intro e_;exact h_ (by rw [e_];rfl)) _;refine pk_ ?_;exact b.out⟩,⟨by repeat (first|(with_reducible first|exact HB.out|apply qaq_|apply qau_|apply ql_|refine qr_ ?_ a9.out|refine qr_ ?_ aI.out|refine qr_ ?_ aJ.out)|exact HB.out)⟩⟩
        ·rw [if_neg G] at H
         exact absurd H (by simp)
       ·rw [if_neg E] at H
        exact absurd H (by simp)
      ·rw [if_neg u] at H
       have a5:decide (c < 3)=false:=decide_eq_false u;clear u;obtain ⟨⟨aE,aF,aG⟩,aH,H⟩:=bs_.mp H;(try dsimp only at H);have ba:=D aH;clear aH;simp only [Option.some.injEq,Prod.mk.injEq] at H;obtain ⟨rfl,rfl,rfl⟩:=H;obtain ⟨Ao33,co33,bb⟩:=Kd.R_slice HO_5.out;subst bb
       go_wp2_with (first|((with_reducible refine qe_ (f:=67) rfl ?_);refine qp_ (some 35) rfl rfl Try.func67 (by kernel_rfl) rfl #[Y Ao33 l.length co33] rfl Z24 ?_;(with_reducible refine (spec_l13Of.calls _ _ l aE aF aG _ ?side1 ?side2 ba.out).mono ?_);(case side1=>exact pC_ ((Kd.R_reads' HO_5.out).2.2));(case side2=>exact (Kd.R_reads' HO_5.out).2.1);rintro e bs ⟨rfl,hb⟩;refine ⟨_,rfl,?_⟩;have n_:=an_ (Kd.R_below (pR_ HO_5.out) hb)<|an_ (qa_ (pk_ a.out) hb)<|an_ (qa_ (pk_ b.out) hb)<|D (qd_ (pB_ HB.out) hb);clear HO_5 a b HB;obtain ⟨HO_5,a,b,HB⟩:=n_;(try clear hb);(try have:=x.out);(try have:=v.out);obtain ⟨bu,bv,bw,bx,bA,bB⟩:=q0_ b.out))
       refine bodyPost_ret (results_cell_row rfl _ _ p 31 #[I L aE,I L aF,I L aG] (0,0) _ rfl (by exact pP_ b.out) Try.underlying31 rfl (by kernel_rfl)) rfl ?_;exact ⟨er_,pB_ HB.out⟩
end Go.Proofs.Ytjhgkonacdimfac.PFnExactTreeServe
