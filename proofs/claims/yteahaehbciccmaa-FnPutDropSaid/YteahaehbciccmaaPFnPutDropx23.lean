-- by a program of this session's, over the kit's words
import Derived.Test.YteahaehbciccmaaPZFnPutDrop
import Derived.Test.YteahaehbciccmaaPFnPutDropx0
import Derived.Test.YteahaehbciccmaaPFnPutDropx2
import Derived.Test.YteahaehbciccmaaPFnPutDropx3
import Derived.Test.YteahaehbciccmaaPFnPutDropx8
import Derived.Test.YteahaehbciccmaaPFnPutDropx15
import Derived.Test.YteahaehbciccmaaPFnPutDropx21
import Derived.Test.YteahaehbciccmaaPFnPutDropx22
namespace Go.Proofs.Yteahaehbciccmaa.PFnPutDrop
open Go.RowKit Go.Proofs.YteahaehbciccmaaW.PrintWords Go.Proofs.YteahaehbciccmaaW.PrintLast Go.Proofs.YteahaehbciccmaaW.PrintMore Go.Proofs.YteahaehbciccmaaV Go.Proofs.Yteahaehbciccmaa.ZFnPutDrop
open Go.Value renaming int → I, slice → Y
open Go.IntKind renaming i64 → L
open Aside0 renaming mk → D
open Option renaming bind_eq_some_iff → bs_
attribute [local go_sem] qad_ qab_ qak_ qaj_ q4_ q3_ qac_ qaa_
set_option linter.unusedVariables false
set_option linter.unusedSimpArgs false
set_option maxHeartbeats 8000000
set_option maxRecDepth 100000
attribute [local go_sem high] eqA52
mutual
def laws_sameTable.j0:Nat→Bool→Int→List (S52)→Int→List (S52)→Option (Bool)
 | 0,_,_,_,_,_=>none
 | k+1,e,c,a,d,b=>if e=true then (some false) else (laws_sameTable.l0 k 0 c a d b)
def laws_sameTable.l0:Nat→Int→Int→List (S52)→Int→List (S52)→Option (Bool)
 | 0,_,_,_,_,_=>none
 | k+1,x5,c,a,d,b=>if x5 < (a.length:Int) then (if 0≤x5 then (if x5 < (b.length:Int) then (if (!(((qa_ a x5).f0) == ((qa_ b x5).f0)) || ((!(((qa_ a x5).f1.f0) == ((qa_ b x5).f1.f0)) || (((!(((qa_ a x5).f1.f1.f0.f0) == ((qa_ b x5).f1.f1.f0.f0)) || (!(((qa_ a x5).f1.f1.f0.f1) == ((qa_ b x5).f1.f1.f0.f1)) || (!(((qa_ a x5).f1.f1.f0.f2) == ((qa_ b x5).f1.f1.f0.f2)) || (!(((qa_ a x5).f1.f1.f0.f3) == ((qa_ b x5).f1.f1.f0.f3)) || (!(((qa_ a x5).f1.f1.f0.f4) == ((qa_ b x5).f1.f1.f0.f4))))))) || ((!(((qa_ a x5).f1.f1.f1.f0) == ((qa_ b x5).f1.f1.f1.f0)) || (!(((qa_ a x5).f1.f1.f1.f1) == ((qa_ b x5).f1.f1.f1.f1)) || (!(((qa_ a x5).f1.f1.f1.f2) == ((qa_ b x5).f1.f1.f1.f2)) || (!(((qa_ a x5).f1.f1.f1.f3) == ((qa_ b x5).f1.f1.f1.f3)) || (!(((qa_ a x5).f1.f1.f1.f4) == ((qa_ b x5).f1.f1.f1.f4))))))) || (!(((qa_ a x5).f1.f1.f2) == ((qa_ b x5).f1.f1.f2)) || (!(((qa_ a x5).f1.f1.f3) == ((qa_ b x5).f1.f1.f3)) || (!(((qa_ a x5).f1.f1.f4) == ((qa_ b x5).f1.f1.f4))))))))) || (!(((qa_ a x5).f2) == ((qa_ b x5).f2)))))=true then (some false) else (laws_sameTable.l0 k (wrap64 (x5+1)) c a d b)) else (none)) else (none)) else (some true)
end
def laws_sameTable.f (k:Nat) (a:Int) (b:List (S52)) (c:Int) (d:List (S52)):Option (Bool):=if a=c then (laws_sameTable.j0 k ((b.length:Int) != (d.length:Int)) a b c d) else (laws_sameTable.j0 k true a b c d)
theorem laws_sameTable.calls (k:Nat) (d:Int) (i:Option Addr) (j:Nat) (b:List (S52)) (g:Int) (l:Option Addr) (m:Nat) (c:List (S52)) (r:Bool) (w:World) (G:Kd.C k52 w i b.length b) (J:b.length≤j) (K:Kd.C k52 w l c.length c) (M:c.length≤m) (h:laws_sameTable.f k d b g c=some r) :
  Calls Try.prog 11 #[.agg #[I L d,Y i b.length j],.agg #[I L g,Y l c.length m]] w fun e w'=>e=.returned (.bool r)∧Below w.heap.size w w':=by
 have hu26:=Try.underlying26
 have hu52:=Try.underlying52
 have aH:=D G
 have aQ:=D J
 clear G J
 have aI:=D K
 have aR:=D M
 clear K M
 have HB:=D (Below.refl w.heap.size w)
 have H:(if d=g then (laws_sameTable.j0 k ((b.length:Int) != (c.length:Int)) d b g c) else (laws_sameTable.j0 k true d b g c))=some r:=h
 clear h
 have v:=D H
 clear H
 go_enter Try.func11,Try.ntmps11
 go_upto_region 1 with (first|((with_reducible refine qg_ (N:=2) rfl ?_);(try (refine qam_ (by rfl) ?_;dsimp only));refine bx_ (N:=2) (cs:=#[I L d,Y i b.length j]) (t:=26) ?_;intro Ka hg O hbox hb;have n_:=an_ (qc_ (pB_ HB.out) hb)<|an_ (hbox)<|an_ (bg_ hg (pB_ HB.out):w.heap.size≤Ka)<|D (bg_ hg (pB_ HB.out):w.heap.size≤Ka);clear HB;obtain ⟨HB,Ja,Kb,Mb⟩:=n_;clear hb hbox hg)|((with_reducible refine qg_ (N:=3) rfl ?_);(try (refine qam_ (by rfl) ?_;dsimp only));refine bx_ (N:=3) (cs:=#[I L g,Y l c.length m]) (t:=26) ?_;intro Ma hg P hbox hb;have n_:=an_ (qb_ (pk_ Ja.out) hb)<|an_ (qc_ (pB_ HB.out) hb)<|an_ (hbox)<|an_ (bg_ hg (pB_ HB.out):w.heap.size≤Ma)<|an_ (bg_ hg (pB_ HB.out):w.heap.size≤Ma)<|an_ (nl_ hg (pk_ Ja.out):Ka≠Ma)<|D (by rw [hg];exact Nat.ne_of_gt (qz_ (pk_ Ja.out)):Ma≠Ka);clear Ja HB;obtain ⟨Ja,HB,Oa,Ob,Ub,Ua,Xa⟩:=n_;clear hb hbox hg))
 repeat (go_quiet (first|((with_reducible refine qg_ (N:=2) rfl ?_);(try (refine qam_ (by rfl) ?_;dsimp only));refine bx_ (N:=2) (cs:=#[I L d,Y i b.length j]) (t:=26) ?_;intro Ka hg O hbox hb;have n_:=an_ (qc_ (pB_ HB.out) hb)<|an_ (hbox)<|an_ (bg_ hg (pB_ HB.out):w.heap.size≤Ka)<|D (bg_ hg (pB_ HB.out):w.heap.size≤Ka);clear HB;obtain ⟨HB,Ja,Kb,Mb⟩:=n_;clear hb hbox hg)|((with_reducible refine qg_ (N:=3) rfl ?_);(try (refine qam_ (by rfl) ?_;dsimp only));refine bx_ (N:=3) (cs:=#[I L g,Y l c.length m]) (t:=26) ?_;intro Ma hg P hbox hb;have n_:=an_ (qb_ (pk_ Ja.out) hb)<|an_ (qc_ (pB_ HB.out) hb)<|an_ (hbox)<|an_ (bg_ hg (pB_ HB.out):w.heap.size≤Ma)<|an_ (bg_ hg (pB_ HB.out):w.heap.size≤Ma)<|an_ (nl_ hg (pk_ Ja.out):Ka≠Ma)<|D (by rw [hg];exact Nat.ne_of_gt (qz_ (pk_ Ja.out)):Ma≠Ka);clear Ja HB;obtain ⟨Ja,HB,Oa,Ob,Ub,Ua,Xa⟩:=n_;clear hb hbox hg));go_upto_region 1 with (first|((with_reducible refine qg_ (N:=2) rfl ?_);(try (refine qam_ (by rfl) ?_;dsimp only));refine bx_ (N:=2) (cs:=#[I L d,Y i b.length j]) (t:=26) ?_;intro Ka hg O hbox hb;have n_:=an_ (qc_ (pB_ HB.out) hb)<|an_ (hbox)<|an_ (bg_ hg (pB_ HB.out):w.heap.size≤Ka)<|D (bg_ hg (pB_ HB.out):w.heap.size≤Ka);clear HB;obtain ⟨HB,Ja,Kb,Mb⟩:=n_;clear hb hbox hg)|((with_reducible refine qg_ (N:=3) rfl ?_);(try (refine qam_ (by rfl) ?_;dsimp only));refine bx_ (N:=3) (cs:=#[I L g,Y l c.length m]) (t:=26) ?_;intro Ma hg P hbox hb;have n_:=an_ (qb_ (pk_ Ja.out) hb)<|an_ (qc_ (pB_ HB.out) hb)<|an_ (hbox)<|an_ (bg_ hg (pB_ HB.out):w.heap.size≤Ma)<|an_ (bg_ hg (pB_ HB.out):w.heap.size≤Ma)<|an_ (nl_ hg (pk_ Ja.out):Ka≠Ma)<|D (by rw [hg];exact Nat.ne_of_gt (qz_ (pk_ Ja.out)):Ma≠Ka);clear Ja HB;obtain ⟨Ja,HB,Oa,Ob,Ub,Ua,Xa⟩:=n_;clear hb hbox hg)))
 (try simp only [Act.put,List.setIfInBounds_toArray,List.set_cons_zero,List.set_cons_succ])
 go_cut [19] (fun aJ wc=>∃ (kq:Nat) (Jb:Bool),aJ=.bool Jb∧Aside0 (laws_sameTable.j0 kq Jb d b g c=some r)∧Aside0 (kq≤k)∧Aside0 (wc.heap[Ka]?=some (.cells #[I L d,(Y i b.length j)] 26 (0,0)))∧Aside0 (wc.heap[Ma]?=some (.cells #[I L g,(Y l c.length m)] 26 (0,0)))∧Aside0 (Below w.heap.size w wc))
 case first =>
  have H:=v.out;clear v
  by_cases c6:d=g
  ·rw [if_pos c6] at H
   have p:(d == g)=true:=beq_iff_eq.mpr c6;have x:(d != g)=false:=bne_eq_false_iff_eq.mpr c6;clear c6;refine rw_ p ?_;have H':=D H;clear H;(try have:=Ua.out);(try have:=Xa.out);have Xb:=ql_ Ja.out;have Oc:=ql_ Oa.out
   go_wp2
   repeat (go_quiet (fail);try go_wp2)
   go_meet
   case rel=>exact ⟨_,(((b.length:Int) != (c.length:Int))),Z35,H',⟨by first | omega | exact Nat.le_refl _⟩,⟨pk_ Ja.out⟩,⟨pk_ Oa.out⟩,⟨pB_ HB.out⟩⟩
  ·rw [if_neg c6] at H
   have p:(d == g)=false:=beq_eq_false_iff_ne.mpr c6;have x:(d != g)=true:=bne_iff_ne.mpr c6;refine rw_ p ?_;have H':=D H;clear H;(try have:=Ua.out);(try have:=Xa.out);have Md:=ql_ Ja.out;have Je:=ql_ Oa.out
   go_wp2
   repeat (go_quiet (fail);try go_wp2)
   go_meet
   case rel=>exact ⟨_,(true),Z35,H',⟨by first | omega | exact Nat.le_refl _⟩,⟨pk_ Ja.out⟩,⟨pk_ Oa.out⟩,⟨pB_ HB.out⟩⟩
 case rest =>
  clear v
  (try clear c1);(try clear T);(try clear c6);(try clear p);(try clear x);(try clear c7);(try clear c10);(try clear aL);(try clear Md);(try clear Je);(try clear Xb);(try clear Oc)
  obtain ⟨kq,Jb,rfl,HA,U,Ja,Oa,HB⟩:=hcut
  cases kq with
  | zero=>exact absurd HA.out (by simp [laws_sameTable.j0])
  | succ kj2 =>
   have H:=HA.out;clear HA;simp only [laws_sameTable.j0] at H
   by_cases q:Jb=true
   ·subst q
    rw [if_pos rfl] at H;obtain rfl:=Option.some.inj H
    go_wp2
    repeat (go_quiet (fail);try go_wp2)
    go_ret;exact ⟨er_,pB_ HB.out⟩
   ·replace q:=Bool.eq_false_iff.mpr q
    subst q;rw [if_neg (show ¬ (false=true) by decide)] at H;have H':=D H;clear H
    go_wp2
    repeat (go_quiet (fail);try go_wp2)
    go_loopg [5] kj2 (fun kq v5 w'=>∃ (a:Int),v5=I L a∧Aside0 (laws_sameTable.l0 kq a d b g c=some r)∧Aside0 (kq≤kj2)∧Aside0 (w'.heap[Ka]?=some (.cells #[I L d,(Y i b.length j)] 26 (0,0)))∧Aside0 (w'.heap[Ma]?=some (.cells #[I L g,(Y l c.length m)] 26 (0,0)))∧Aside0 (Below w.heap.size w w'))
    case atStart=>exact ⟨(0),Z35,H',⟨Nat.le_refl _⟩,⟨pk_ Ja.out⟩,⟨pk_ Oa.out⟩,⟨pB_ HB.out⟩⟩
    case round =>
     clear H'
     (try clear c1);(try clear T);(try clear c6);(try clear p);(try clear x);(try clear c7);(try clear c10);(try clear aL);(try clear q);(try clear Md);(try clear Je);(try clear Xb);(try clear Oc);(try clear T)
     obtain ⟨a,rfl,HA,W,Ja,Oa,HB⟩:=hrel
     cases gk with
     | zero=>exact absurd HA.out (by simp [laws_sameTable.l0])
     | succ k2 =>
      have H:=HA.out;clear HA;simp only [laws_sameTable.l0] at H
      by_cases n:a < (b.length:Int)
      ·rw [if_pos n] at H
       have aN:decide (a < (b.length:Int))=true:=decide_eq_true n;clear n
       by_cases s:0≤a
       ·rw [if_pos s] at H
        have aS:decide (0≤a)=true:=decide_eq_true s;clear s
        by_cases u:a < (c.length:Int)
        ·rw [if_pos u] at H
         have aT:decide (a < (c.length:Int))=true:=decide_eq_true u;clear u;have X:=D H;clear H;(try have:=Ua.out);(try have:=Xa.out);have Jf:=ql_ Ja.out;have y:0≤(a:Int):=od_ Z22;have z:a < (b.length:Int):=od_ Z22;obtain ⟨aU,aO,Z,aa,ab,ac,ad,ae,af,ag,ah,ai,aj,ak,al,am,an,ao⟩:=at_T52 aH.out a y z;cases aO;replace Z:=rc_ HB.out Z;replace aa:=rc_ HB.out aa;replace ab:=rc_ HB.out ab;replace ac:=rc_ HB.out ac;replace ad:=rc_ HB.out ad;replace ae:=rc_ HB.out ae;replace af:=rc_ HB.out af;replace ag:=rc_ HB.out ag;replace ah:=rc_ HB.out ah;replace ai:=rc_ HB.out ai;replace aj:=rc_ HB.out aj;replace ak:=rc_ HB.out ak;replace al:=rc_ HB.out al;replace am:=rc_ HB.out am;replace an:=rc_ HB.out an;replace ao:=rc_ HB.out ao;replace y:=eq_true y;replace z:=eq_true z;have Uf:=ql_ Oa.out;have A:0≤(a:Int):=od_ Z22;have B:a < (c.length:Int):=od_ Z22;obtain ⟨aV,aP,ap,aq,ar,au,av,aw,ax,ay,az,aA,aB,aC,aD,aE,aF,aG⟩:=at_T52 aI.out a A B;cases aP;replace ap:=rc_ HB.out ap;replace aq:=rc_ HB.out aq;replace ar:=rc_ HB.out ar;replace au:=rc_ HB.out au;replace av:=rc_ HB.out av;replace aw:=rc_ HB.out aw;replace ax:=rc_ HB.out ax;replace ay:=rc_ HB.out ay;replace az:=rc_ HB.out az;replace aA:=rc_ HB.out aA;replace aB:=rc_ HB.out aB;replace aC:=rc_ HB.out aC;replace aD:=rc_ HB.out aD;replace aE:=rc_ HB.out aE;replace aF:=rc_ HB.out aF;replace aG:=rc_ HB.out aG;replace A:=eq_true A;replace B:=eq_true B
         go_upto_if 37 with (fail)
         repeat (go_quiet (fail);go_upto_if 37 with (fail))
         have H:=X.out;clear X
         by_cases o:(!(((qa_ b a).f0) == ((qa_ c a).f0)) || ((!(((qa_ b a).f1.f0) == ((qa_ c a).f1.f0)) || (((!(((qa_ b a).f1.f1.f0.f0) == ((qa_ c a).f1.f1.f0.f0)) || (!(((qa_ b a).f1.f1.f0.f1) == ((qa_ c a).f1.f1.f0.f1)) || (!(((qa_ b a).f1.f1.f0.f2) == ((qa_ c a).f1.f1.f0.f2)) || (!(((qa_ b a).f1.f1.f0.f3) == ((qa_ c a).f1.f1.f0.f3)) || (!(((qa_ b a).f1.f1.f0.f4) == ((qa_ c a).f1.f1.f0.f4))))))) || ((!(((qa_ b a).f1.f1.f1.f0) == ((qa_ c a).f1.f1.f1.f0)) || (!(((qa_ b a).f1.f1.f1.f1) == ((qa_ c a).f1.f1.f1.f1)) || (!(((qa_ b a).f1.f1.f1.f2) == ((qa_ c a).f1.f1.f1.f2)) || (!(((qa_ b a).f1.f1.f1.f3) == ((qa_ c a).f1.f1.f1.f3)) || (!(((qa_ b a).f1.f1.f1.f4) == ((qa_ c a).f1.f1.f1.f4))))))) || (!(((qa_ b a).f1.f1.f2) == ((qa_ c a).f1.f1.f2)) || (!(((qa_ b a).f1.f1.f3) == ((qa_ c a).f1.f1.f3)) || (!(((qa_ b a).f1.f1.f4) == ((qa_ c a).f1.f1.f4))))))))) || (!(((qa_ b a).f2) == ((qa_ c a).f2)))))=true
         ·rw [if_pos o] at H
          have E:(!(((qa_ b a).f0) == ((qa_ c a).f0)) || ((!(((qa_ b a).f1.f0) == ((qa_ c a).f1.f0)) || (((!(((qa_ b a).f1.f1.f0.f0) == ((qa_ c a).f1.f1.f0.f0)) || (!(((qa_ b a).f1.f1.f0.f1) == ((qa_ c a).f1.f1.f0.f1)) || (!(((qa_ b a).f1.f1.f0.f2) == ((qa_ c a).f1.f1.f0.f2)) || (!(((qa_ b a).f1.f1.f0.f3) == ((qa_ c a).f1.f1.f0.f3)) || (!(((qa_ b a).f1.f1.f0.f4) == ((qa_ c a).f1.f1.f0.f4))))))) || ((!(((qa_ b a).f1.f1.f1.f0) == ((qa_ c a).f1.f1.f1.f0)) || (!(((qa_ b a).f1.f1.f1.f1) == ((qa_ c a).f1.f1.f1.f1)) || (!(((qa_ b a).f1.f1.f1.f2) == ((qa_ c a).f1.f1.f1.f2)) || (!(((qa_ b a).f1.f1.f1.f3) == ((qa_ c a).f1.f1.f1.f3)) || (!(((qa_ b a).f1.f1.f1.f4) == ((qa_ c a).f1.f1.f1.f4))))))) || (!(((qa_ b a).f1.f1.f2) == ((qa_ c a).f1.f1.f2)) || (!(((qa_ b a).f1.f1.f3) == ((qa_ c a).f1.f1.f3)) || (!(((qa_ b a).f1.f1.f4) == ((qa_ c a).f1.f1.f4))))))))) || (!(((qa_ b a).f2) == ((qa_ c a).f2)))))=true:=o;clear o;refine rw_ E ?_;obtain rfl:=Option.some.inj H
          go_wp2
          repeat (go_quiet (fail);try go_wp2)
          go_ret;exact ⟨er_,pB_ HB.out⟩
         ·rw [if_neg o] at H
          have E:(!(((qa_ b a).f0) == ((qa_ c a).f0)) || ((!(((qa_ b a).f1.f0) == ((qa_ c a).f1.f0)) || (((!(((qa_ b a).f1.f1.f0.f0) == ((qa_ c a).f1.f1.f0.f0)) || (!(((qa_ b a).f1.f1.f0.f1) == ((qa_ c a).f1.f1.f0.f1)) || (!(((qa_ b a).f1.f1.f0.f2) == ((qa_ c a).f1.f1.f0.f2)) || (!(((qa_ b a).f1.f1.f0.f3) == ((qa_ c a).f1.f1.f0.f3)) || (!(((qa_ b a).f1.f1.f0.f4) == ((qa_ c a).f1.f1.f0.f4))))))) || ((!(((qa_ b a).f1.f1.f1.f0) == ((qa_ c a).f1.f1.f1.f0)) || (!(((qa_ b a).f1.f1.f1.f1) == ((qa_ c a).f1.f1.f1.f1)) || (!(((qa_ b a).f1.f1.f1.f2) == ((qa_ c a).f1.f1.f1.f2)) || (!(((qa_ b a).f1.f1.f1.f3) == ((qa_ c a).f1.f1.f1.f3)) || (!(((qa_ b a).f1.f1.f1.f4) == ((qa_ c a).f1.f1.f1.f4))))))) || (!(((qa_ b a).f1.f1.f2) == ((qa_ c a).f1.f1.f2)) || (!(((qa_ b a).f1.f1.f3) == ((qa_ c a).f1.f1.f3)) || (!(((qa_ b a).f1.f1.f4) == ((qa_ c a).f1.f1.f4))))))))) || (!(((qa_ b a).f2) == ((qa_ c a).f2)))))=false:=by simpa using o
          clear o;refine rw_ E ?_;have H':=D H;clear H
          go_wp2
          repeat (go_quiet (fail);try go_wp2)
          go_roundg k2
          case measure=>have:=U.out;have:=W.out;omega
          case rel=>exact ⟨(wrap64 (a+1)),Z35,H',⟨by have:=U.out;have:=W.out;omega⟩,⟨pk_ Ja.out⟩,⟨pk_ Oa.out⟩,⟨pB_ HB.out⟩⟩
        ·rw [if_neg u] at H
         exact absurd H (by simp)
       ·rw [if_neg s] at H
        exact absurd H (by simp)
      ·rw [if_neg n] at H
       have aN:decide (a < (b.length:Int))=false:=decide_eq_false n;clear n;obtain rfl:=Option.some.inj H;(try have:=Ua.out);(try have:=Xa.out);have Mg:=ql_ Ja.out
       go_wp2
       repeat (go_quiet (fail);try go_wp2)
       go_ret;exact ⟨er_,pB_ HB.out⟩
def laws_FnPutDrop.j0:Nat→Int→Int→Int→Bool→Int→List (S52)→Int→Int→Int→Int→Int→Int→Int→Int→Int→Int→Int→Int→Int→Int→Int→List (S52)→Option (Bool)
 | 0,_,_,_,_,_,_,_,_,_,_,_,_,_,_,_,_,_,_,_,_,_,_=>none
 | k+1,x5,x9,x14,u,v,w,b,c,d,e,g,h,i,j,l,m,n,o,p,q,r,s=>if u=true then (some (x14 == x9)) else ((impl_TableFind.f k r s b c d e g h i j l m n o p q).bind fun t=>((impl_TableDrop.f k r s b c d e g h i j l m n o p q).bind fun a=>(if t.2=true then (if t.1=x5 then (if a.2.2=0 then ((laws_sameTable.f k a.1 a.2.1 v w).bind fun Ue=>(some Ue)) else (some false)) else (some false)) else (some false))))
def laws_FnPutDrop.f (k:Nat) (l0:List Int):Option (Bool):=(laws_big.f l0).bind fun Xe=>(if Xe=true then (some true) else ((spec_DrawTablePut.f k l0).bind fun a=>((spec_TableFind.f k a.1 a.2.1 a.2.2.1 a.2.2.2.1 a.2.2.2.2.1 a.2.2.2.2.2.1 a.2.2.2.2.2.2.1 a.2.2.2.2.2.2.2.1 a.2.2.2.2.2.2.2.2.1 a.2.2.2.2.2.2.2.2.2.1 a.2.2.2.2.2.2.2.2.2.2.1 a.2.2.2.2.2.2.2.2.2.2.2.1 a.2.2.2.2.2.2.2.2.2.2.2.2.1 a.2.2.2.2.2.2.2.2.2.2.2.2.2.1 a.2.2.2.2.2.2.2.2.2.2.2.2.2.2.1 a.2.2.2.2.2.2.2.2.2.2.2.2.2.2.2.1).bind fun e=>((spec_TablePut.f k a.1 a.2.1 a.2.2.1 a.2.2.2.1 a.2.2.2.2.1 a.2.2.2.2.2.1 a.2.2.2.2.2.2.1 a.2.2.2.2.2.2.2.1 a.2.2.2.2.2.2.2.2.1 a.2.2.2.2.2.2.2.2.2.1 a.2.2.2.2.2.2.2.2.2.2.1 a.2.2.2.2.2.2.2.2.2.2.2.1 a.2.2.2.2.2.2.2.2.2.2.2.2.1 a.2.2.2.2.2.2.2.2.2.2.2.2.2.1 a.2.2.2.2.2.2.2.2.2.2.2.2.2.2.1 a.2.2.2.2.2.2.2.2.2.2.2.2.2.2.2.1 a.2.2.2.2.2.2.2.2.2.2.2.2.2.2.2.2).bind fun c=>((spec_DrawTablePut.f k l0).bind fun d=>((impl_TablePut.f k d.1 d.2.1 a.2.2.1 a.2.2.2.1 a.2.2.2.2.1 a.2.2.2.2.2.1 a.2.2.2.2.2.2.1 a.2.2.2.2.2.2.2.1 a.2.2.2.2.2.2.2.2.1 a.2.2.2.2.2.2.2.2.2.1 a.2.2.2.2.2.2.2.2.2.2.1 a.2.2.2.2.2.2.2.2.2.2.2.1 a.2.2.2.2.2.2.2.2.2.2.2.2.1 a.2.2.2.2.2.2.2.2.2.2.2.2.2.1 a.2.2.2.2.2.2.2.2.2.2.2.2.2.2.1 a.2.2.2.2.2.2.2.2.2.2.2.2.2.2.2.1 a.2.2.2.2.2.2.2.2.2.2.2.2.2.2.2.2).bind fun b=>(if b.2.2=c.2.2 then (if b.2.2=0 then (laws_FnPutDrop.j0 k a.2.2.2.2.2.2.2.2.2.2.2.2.2.2.2.2 c.2.2 b.2.2 e.2 a.1 a.2.1 a.2.2.1 a.2.2.2.1 a.2.2.2.2.1 a.2.2.2.2.2.1 a.2.2.2.2.2.2.1 a.2.2.2.2.2.2.2.1 a.2.2.2.2.2.2.2.2.1 a.2.2.2.2.2.2.2.2.2.1 a.2.2.2.2.2.2.2.2.2.2.1 a.2.2.2.2.2.2.2.2.2.2.2.1 a.2.2.2.2.2.2.2.2.2.2.2.2.1 a.2.2.2.2.2.2.2.2.2.2.2.2.2.1 a.2.2.2.2.2.2.2.2.2.2.2.2.2.2.1 a.2.2.2.2.2.2.2.2.2.2.2.2.2.2.2.1 b.1 b.2.1) else (laws_FnPutDrop.j0 k a.2.2.2.2.2.2.2.2.2.2.2.2.2.2.2.2 c.2.2 b.2.2 true a.1 a.2.1 a.2.2.1 a.2.2.2.1 a.2.2.2.2.1 a.2.2.2.2.2.1 a.2.2.2.2.2.2.1 a.2.2.2.2.2.2.2.1 a.2.2.2.2.2.2.2.2.1 a.2.2.2.2.2.2.2.2.2.1 a.2.2.2.2.2.2.2.2.2.2.1 a.2.2.2.2.2.2.2.2.2.2.2.1 a.2.2.2.2.2.2.2.2.2.2.2.2.1 a.2.2.2.2.2.2.2.2.2.2.2.2.2.1 a.2.2.2.2.2.2.2.2.2.2.2.2.2.2.1 a.2.2.2.2.2.2.2.2.2.2.2.2.2.2.2.1 b.1 b.2.1)) else (laws_FnPutDrop.j0 k a.2.2.2.2.2.2.2.2.2.2.2.2.2.2.2.2 c.2.2 b.2.2 true a.1 a.2.1 a.2.2.1 a.2.2.2.1 a.2.2.2.2.1 a.2.2.2.2.2.1 a.2.2.2.2.2.2.1 a.2.2.2.2.2.2.2.1 a.2.2.2.2.2.2.2.2.1 a.2.2.2.2.2.2.2.2.2.1 a.2.2.2.2.2.2.2.2.2.2.1 a.2.2.2.2.2.2.2.2.2.2.2.1 a.2.2.2.2.2.2.2.2.2.2.2.2.1 a.2.2.2.2.2.2.2.2.2.2.2.2.2.1 a.2.2.2.2.2.2.2.2.2.2.2.2.2.2.1 a.2.2.2.2.2.2.2.2.2.2.2.2.2.2.2.1 b.1 b.2.1))))))))
theorem laws_FnPutDrop.calls (k:Nat) (q:Option Addr) (s:Nat) (l0:List Int) (r:Bool) (w:World) (E:Kd.C (Kd.int .u8) w q l0.length l0) (G:l0.length≤s) (hr_:Aside0 (r=true)) (h:laws_FnPutDrop.f k l0=some r) :
  Calls Try.prog 3 #[Y q l0.length s] w fun e w'=>e=.returned (.bool r)∧Below w.heap.size w w':=by
 have hu26:=Try.underlying26
 have hu32:=Try.underlying32
 have z:=D E
 have A:=D G
 clear E G
 have HB:=D (Below.refl w.heap.size w)
 have H:((laws_big.f l0).bind fun Oo=>(if Oo=true then (some true) else ((spec_DrawTablePut.f k l0).bind fun a=>((spec_TableFind.f k a.1 a.2.1 a.2.2.1 a.2.2.2.1 a.2.2.2.2.1 a.2.2.2.2.2.1 a.2.2.2.2.2.2.1 a.2.2.2.2.2.2.2.1 a.2.2.2.2.2.2.2.2.1 a.2.2.2.2.2.2.2.2.2.1 a.2.2.2.2.2.2.2.2.2.2.1 a.2.2.2.2.2.2.2.2.2.2.2.1 a.2.2.2.2.2.2.2.2.2.2.2.2.1 a.2.2.2.2.2.2.2.2.2.2.2.2.2.1 a.2.2.2.2.2.2.2.2.2.2.2.2.2.2.1 a.2.2.2.2.2.2.2.2.2.2.2.2.2.2.2.1).bind fun ae=>((spec_TablePut.f k a.1 a.2.1 a.2.2.1 a.2.2.2.1 a.2.2.2.2.1 a.2.2.2.2.2.1 a.2.2.2.2.2.2.1 a.2.2.2.2.2.2.2.1 a.2.2.2.2.2.2.2.2.1 a.2.2.2.2.2.2.2.2.2.1 a.2.2.2.2.2.2.2.2.2.2.1 a.2.2.2.2.2.2.2.2.2.2.2.1 a.2.2.2.2.2.2.2.2.2.2.2.2.1 a.2.2.2.2.2.2.2.2.2.2.2.2.2.1 a.2.2.2.2.2.2.2.2.2.2.2.2.2.2.1 a.2.2.2.2.2.2.2.2.2.2.2.2.2.2.2.1 a.2.2.2.2.2.2.2.2.2.2.2.2.2.2.2.2).bind fun u=>((spec_DrawTablePut.f k l0).bind fun J=>((impl_TablePut.f k J.1 J.2.1 a.2.2.1 a.2.2.2.1 a.2.2.2.2.1 a.2.2.2.2.2.1 a.2.2.2.2.2.2.1 a.2.2.2.2.2.2.2.1 a.2.2.2.2.2.2.2.2.1 a.2.2.2.2.2.2.2.2.2.1 a.2.2.2.2.2.2.2.2.2.2.1 a.2.2.2.2.2.2.2.2.2.2.2.1 a.2.2.2.2.2.2.2.2.2.2.2.2.1 a.2.2.2.2.2.2.2.2.2.2.2.2.2.1 a.2.2.2.2.2.2.2.2.2.2.2.2.2.2.1 a.2.2.2.2.2.2.2.2.2.2.2.2.2.2.2.1 a.2.2.2.2.2.2.2.2.2.2.2.2.2.2.2.2).bind fun d=>(if d.2.2=u.2.2 then (if d.2.2=0 then (laws_FnPutDrop.j0 k a.2.2.2.2.2.2.2.2.2.2.2.2.2.2.2.2 u.2.2 d.2.2 ae.2 a.1 a.2.1 a.2.2.1 a.2.2.2.1 a.2.2.2.2.1 a.2.2.2.2.2.1 a.2.2.2.2.2.2.1 a.2.2.2.2.2.2.2.1 a.2.2.2.2.2.2.2.2.1 a.2.2.2.2.2.2.2.2.2.1 a.2.2.2.2.2.2.2.2.2.2.1 a.2.2.2.2.2.2.2.2.2.2.2.1 a.2.2.2.2.2.2.2.2.2.2.2.2.1 a.2.2.2.2.2.2.2.2.2.2.2.2.2.1 a.2.2.2.2.2.2.2.2.2.2.2.2.2.2.1 a.2.2.2.2.2.2.2.2.2.2.2.2.2.2.2.1 d.1 d.2.1) else (laws_FnPutDrop.j0 k a.2.2.2.2.2.2.2.2.2.2.2.2.2.2.2.2 u.2.2 d.2.2 true a.1 a.2.1 a.2.2.1 a.2.2.2.1 a.2.2.2.2.1 a.2.2.2.2.2.1 a.2.2.2.2.2.2.1 a.2.2.2.2.2.2.2.1 a.2.2.2.2.2.2.2.2.1 a.2.2.2.2.2.2.2.2.2.1 a.2.2.2.2.2.2.2.2.2.2.1 a.2.2.2.2.2.2.2.2.2.2.2.1 a.2.2.2.2.2.2.2.2.2.2.2.2.1 a.2.2.2.2.2.2.2.2.2.2.2.2.2.1 a.2.2.2.2.2.2.2.2.2.2.2.2.2.2.1 a.2.2.2.2.2.2.2.2.2.2.2.2.2.2.2.1 d.1 d.2.1)) else (laws_FnPutDrop.j0 k a.2.2.2.2.2.2.2.2.2.2.2.2.2.2.2.2 u.2.2 d.2.2 true a.1 a.2.1 a.2.2.1 a.2.2.2.1 a.2.2.2.2.1 a.2.2.2.2.2.1 a.2.2.2.2.2.2.1 a.2.2.2.2.2.2.2.1 a.2.2.2.2.2.2.2.2.1 a.2.2.2.2.2.2.2.2.2.1 a.2.2.2.2.2.2.2.2.2.2.1 a.2.2.2.2.2.2.2.2.2.2.2.1 a.2.2.2.2.2.2.2.2.2.2.2.2.1 a.2.2.2.2.2.2.2.2.2.2.2.2.2.1 a.2.2.2.2.2.2.2.2.2.2.2.2.2.2.1 a.2.2.2.2.2.2.2.2.2.2.2.2.2.2.2.1 d.1 d.2.1)))))))))=some r:=h
 clear h
 obtain ⟨Oo,K,H⟩:=bs_.mp H
 (try dsimp only at H)
 have A2:=D K
 clear K
 have M:=D H
 clear H
 go_enter Try.func3,Try.ntmps3
 go_upto_if 20 with (first|((with_reducible refine gst_ 32 rfl ?_);refine sa32_ ?_)|((with_reducible refine gld_ 32 rfl ?_);refine la32_ ?_)|((with_reducible refine qd_ (f:=4) rfl ?_);refine qk_ (some 20) rfl rfl Try.func4 (by kernel_rfl) rfl #[Y q l0.length s] rfl Z12 ?_;(with_reducible refine (laws_big.calls _ _ l0 Oo _ ?side1 ?side2 A2.out).mono ?_);(case side1=>exact pC_ z.out);(case side2=>exact A.out);rintro e w' ⟨rfl,⟨nd,rfl⟩⟩;refine ⟨_,rfl,?_⟩))
 have H:=M.out
 clear M
 by_cases c4:Oo=true
 ·subst c4
  rw [if_pos rfl] at H;obtain rfl:=Option.some.inj H
  go_wp2_with (first|((with_reducible refine gst_ 32 rfl ?_);refine sa32_ ?_)|((with_reducible refine gld_ 32 rfl ?_);refine la32_ ?_))
  go_ret;exact ⟨er_,pB_ HB.out⟩
 ·replace c4:=Bool.eq_false_iff.mpr c4
  subst c4;rw [if_neg (show ¬ (false=true) by decide)] at H;obtain ⟨⟨Xe,Xc,Xa,Jb,Kb,Mb,Ob,Ub,Jc,Kc,Mc,Oc,Uc,Jd,Od,Xd,Ki⟩,O,H⟩:=bs_.mp H;(try dsimp only at H);have A5:=D O;clear O;obtain ⟨⟨Oq,Jq⟩,P,H⟩:=bs_.mp H;(try dsimp only at H);have A6:=D P;clear P;obtain ⟨⟨Mm,Om,Um⟩,T,H⟩:=bs_.mp H;(try dsimp only at H);have A7:=D T;clear T;obtain ⟨⟨Kj,Mj,Ke,Me,Ue,Jf,Uf,Jg,Jh,Oh,Xh,Mi,Oj,Uj,Mk,Xm,Uq⟩,U,H⟩:=bs_.mp H;(try dsimp only at H);have A8:=D U;clear U;obtain ⟨⟨Kf,Oe,Ji⟩,W,H⟩:=bs_.mp H;(try dsimp only at H);have A9:=D W;clear W;have B:=D H;clear H
  go_upto_region 8 with (first|((with_reducible refine gst_ 32 rfl ?_);refine sa32_ ?_)|((with_reducible refine gld_ 32 rfl ?_);refine la32_ ?_)|((with_reducible refine qd_ (f:=5) rfl ?_);refine qk_ (some 23) rfl rfl Try.func5 (by kernel_rfl) rfl #[Y q l0.length s] rfl Z12 ?_;(with_reducible refine (spec_DrawTablePut.calls k _ _ l0 Xe Xc Xa Jb Kb Mb Ob Ub Jc Kc Mc Oc Uc Jd Od Xd Ki _ ?side1 ?side2 A5.out).mono ?_);(case side1=>exact pC_ (Kd.C_below z.out HB.out));(case side2=>exact A.out);rintro e aA ⟨Mr1,rfl,b,hb⟩;refine ⟨_,rfl,?_⟩;have n_:=an_ (Kd.R_lower b (qh_ (pB_ HB.out)))<|D (qc_ (pB_ HB.out) hb);clear HB;obtain ⟨Oa,HB⟩:=n_;(try clear hb);(try clear b))|((with_reducible refine qg_ (N:=3) rfl ?_);refine bx_ (N:=3) (cs:=#[I L 0,Y none 0 0]) (t:=26) ?_;intro Xb hg aB hbox hb;have n_:=an_ (Kd.R_below (pR_ Oa.out) hb)<|an_ (qc_ (pB_ HB.out) hb)<|an_ (hbox)<|an_ (bg_ hg (pB_ HB.out):w.heap.size≤Xb)<|D (bg_ hg (pB_ HB.out):w.heap.size≤Xb);clear Oa HB;obtain ⟨Oa,HB,Ma,Or1,Ur1⟩:=n_;clear hb hbox hg)|((with_reducible refine qg_ (N:=4) rfl ?_);refine bx_ (N:=4) (cs:=#[I L 0,I L 0,I L 0,I L 0,I L 0,I L 0,I L 0,I L 0,I L 0,I L 0,I L 0,I L 0,I L 0,I L 0]) (t:=32) ?_;intro Ka hg aC hbox hb;have n_:=an_ (Kd.R_below (pR_ Oa.out) hb)<|an_ (qb_ (pk_ Ma.out) hb)<|an_ (qc_ (pB_ HB.out) hb)<|an_ (hbox)<|an_ (bg_ hg (pB_ HB.out):w.heap.size≤Ka)<|an_ (bg_ hg (pB_ HB.out):w.heap.size≤Ka)<|an_ (nl_ hg (pk_ Ma.out):Xb≠Ka)<|D (by rw [hg];exact Nat.ne_of_gt (qz_ (pk_ Ma.out)):Ka≠Xb);clear Oa Ma HB;obtain ⟨Oa,Ma,HB,Ja,Xr1,Js1,Xf,Uo⟩:=n_;clear hb hbox hg;(try have:=Xf.out);(try have:=Uo.out);have Xq:=ql_ Ma.out;obtain ⟨Kg,Mf,al⟩:=Kd.R_slice Oa.out;subst al)|((with_reducible refine qd_ (f:=6) rfl ?_);refine qk_ (some 30) rfl rfl Try.func6 (by kernel_rfl) rfl #[.agg #[I L Xe,Y Kg Xc.length Mf],.agg #[I L Xa,I L Jb,I L Kb,I L Mb,I L Ob,I L Ub,I L Jc,I L Kc,I L Mc,I L Oc,I L Uc,I L Jd,I L Od,I L Xd]] rfl Z12 ?_;(with_reducible refine (spec_TableFind.calls k Xe _ _ Xc Xa Jb Kb Mb Ob Ub Jc Kc Mc Oc Uc Jd Od Xd Oq Jq _ ?side1 ?side2 A6.out).mono ?_);(case side1=>refine (Kd.R_reads' (e:=52) (base:=w.heap.size) (ok:=fun k_=>True) (n:=Xc.length) (c:=Mf) ?_).2.2;exact (pR_ (Kd.R_mono (Kd.R_mono (fr_ (fr_ (fr_ (fr_ (fr_ (fr_ (fr_ (fr_ (fr_ (fr_ (fr_ (fr_ (fr_ (fr_ (Kd.R_far (p:=⟨Xb,1,none⟩) (Kd.R_far (p:=⟨Xb,0,none⟩) (Kd.R_types (Kd.R_types Oa.out Ma.out (by decide)) Ja.out (by decide)) (fun _ hk=>hk.1.2) (I L Xe)) (fun _ hk=>hk.1.2) (Y Kg Xc.length Mf)) 0 (I L Xa)) 1 (I L Jb)) 2 (I L Kb)) 3 (I L Mb)) 4 (I L Ob)) 5 (I L Ub)) 6 (I L Jc)) 7 (I L Kc)) 8 (I L Mc)) 9 (I L Oc)) 10 (I L Uc)) 11 (I L Jd)) 12 (I L Od)) 13 (I L Xd)) (fun _ h_=>h_.1)) (fun _ h_=>h_.1))));(case side2=>exact (Kd.R_reads' Oa.out).2.1);rintro e aD ⟨rfl,hb⟩;refine ⟨_,rfl,?_⟩;have n_:=an_ (Kd.R_below (pR_ (Kd.R_mono (Kd.R_mono (fr_ (fr_ (fr_ (fr_ (fr_ (fr_ (fr_ (fr_ (fr_ (fr_ (fr_ (fr_ (fr_ (fr_ (Kd.R_far (p:=⟨Xb,1,none⟩) (Kd.R_far (p:=⟨Xb,0,none⟩) (Kd.R_types (Kd.R_types Oa.out Ma.out (by decide)) Ja.out (by decide)) (fun _ hk=>hk.1.2) (I L Xe)) (fun _ hk=>hk.1.2) (Y Kg Xc.length Mf)) 0 (I L Xa)) 1 (I L Jb)) 2 (I L Kb)) 3 (I L Mb)) 4 (I L Ob)) 5 (I L Ub)) 6 (I L Jc)) 7 (I L Kc)) 8 (I L Mc)) 9 (I L Oc)) 10 (I L Uc)) 11 (I L Jd)) 12 (I L Od)) 13 (I L Xd)) (fun _ h_=>h_.1)) (fun _ h_=>h_.1))) hb)<|an_ (qb_ (g:=Xb) (o:=.cells #[I L Xe,Y Kg Xc.length Mf] 26 (0,0)) (by exact pP_ Ma.out) hb)<|an_ (qb_ (g:=Ka) (o:=.cells #[I L Xa,I L Jb,I L Kb,I L Mb,I L Ob,I L Ub,I L Jc,I L Kc,I L Mc,I L Oc,I L Uc,I L Jd,I L Od,I L Xd] 32 (0,0)) (by exact pP_ Ja.out) hb)<|D (qc_ (pB_ HB.out) hb);clear Oa Ma Ja HB;obtain ⟨Oa,Ma,Ja,HB⟩:=n_;(try clear hb);(try clear hk);have Ky:=ql_ Ma.out)|((with_reducible refine qd_ (f:=7) rfl ?_);refine qk_ (some 37) rfl rfl Try.func7 (by kernel_rfl) rfl #[.agg #[I L Xe,Y Kg Xc.length Mf],.agg #[I L Xa,I L Jb,I L Kb,I L Mb,I L Ob,I L Ub,I L Jc,I L Kc,I L Mc,I L Oc,I L Uc,I L Jd,I L Od,I L Xd],I L Ki] rfl Z12 ?_;(with_reducible refine (spec_TablePut.calls k Xe _ _ Xc Xa Jb Kb Mb Ob Ub Jc Kc Mc Oc Uc Jd Od Xd Ki Mm Om Um _ ?side1 ?side2 A7.out).mono ?_);(case side1=>exact pC_ ((Kd.R_reads' Oa.out).2.2));(case side2=>exact (Kd.R_reads' Oa.out).2.1);rintro e aE ⟨Ks1,rfl,b,hb⟩;refine ⟨_,rfl,?_⟩;have n_:=an_ (Kd.R_elder' (pR_ Oa.out) (Kd.R_base b) hb)<|an_ (Kd.R_lower (nw_ b (pR_ Oa.out)) (qh_ (pB_ HB.out)))<|an_ (qb_ (pk_ Ma.out) hb)<|an_ (qb_ (pk_ Ja.out) hb)<|D (qc_ (pB_ HB.out) hb);clear Oa Ma Ja HB;obtain ⟨Oa,Ok,Ma,Ja,HB⟩:=n_;(try clear hb);(try clear b))|((with_reducible refine qg_ (N:=8) rfl ?_);refine bx_ (N:=8) (cs:=#[I L 0,Y none 0 0]) (t:=26) ?_;intro Xj hg aF hbox hb;have n_:=an_ (Kd.R_below (pR_ Oa.out) hb)<|an_ (Kd.R_below (pR_ Ok.out) hb)<|an_ (qb_ (pk_ Ma.out) hb)<|an_ (qb_ (pk_ Ja.out) hb)<|an_ (qc_ (pB_ HB.out) hb)<|an_ (hbox)<|an_ (bg_ hg (pB_ HB.out):w.heap.size≤Xj)<|an_ (bg_ hg (pB_ HB.out):w.heap.size≤Xj)<|an_ (nl_ hg (pk_ Ma.out):Xb≠Xj)<|an_ (ng_ hg (pk_ Ma.out):Xj≠Xb)<|an_ (nl_ hg (pk_ Ja.out):Ka≠Xj)<|D (by rw [hg];exact Nat.ne_of_gt (qz_ (pk_ Ja.out)):Xj≠Ka);clear Oa Ok Ma Ja HB;obtain ⟨Oa,Ok,Ma,Ja,HB,Oi,Ms1,Os1,Jp,Od1,Kp,Ud1⟩:=n_;clear hb hbox hg;(try have:=Od1.out);(try have:=Jp.out);(try have:=Ud1.out);(try have:=Kp.out);have Xd1:=ql_ Oi.out;obtain ⟨Un,Xn,am⟩:=Kd.R_slice Ok.out;subst am)|((with_reducible refine qd_ (f:=5) rfl ?_);refine qk_ (some 42) rfl rfl Try.func5 (by kernel_rfl) rfl #[Y q l0.length s] rfl Z12 ?_;(with_reducible refine (spec_DrawTablePut.calls k _ _ l0 Kj Mj Ke Me Ue Jf Uf Jg Jh Oh Xh Mi Oj Uj Mk Xm Uq _ ?side1 ?side2 A8.out).mono ?_);(case side1=>exact Kd.C_below z.out (pB_ HB.out));(case side2=>exact A.out);rintro e aG ⟨Us1,rfl,b,hb⟩;refine ⟨_,rfl,?_⟩;have n_:=an_ (Kd.R_elder' (rM_ (Kd.R_types Oa.out Oi.out (by decide)) (fun _ h_=>h_.1)) (Kd.R_base b) hb)<|an_ (Kd.R_elder' (rM_ (Kd.R_types Ok.out Oi.out (by decide)) (fun _ h_=>h_.1)) (Kd.R_base b) hb)<|an_ (Kd.R_lower (nw_ (nw_ b (rM_ (Kd.R_types Oa.out Oi.out (by decide)) (fun _ h_=>h_.1))) (rM_ (Kd.R_types Ok.out Oi.out (by decide)) (fun _ h_=>h_.1))) (qh_ (pB_ HB.out)))<|an_ (qb_ (g:=Xb) (o:=.cells #[I L Xe,Y Kg Xc.length Mf] 26 (0,0)) (by exact pP_ Ma.out) hb)<|an_ (qb_ (g:=Ka) (o:=.cells #[I L Xa,I L Jb,I L Kb,I L Mb,I L Ob,I L Ub,I L Jc,I L Kc,I L Mc,I L Oc,I L Uc,I L Jd,I L Od,I L Xd] 32 (0,0)) (by exact pP_ Ja.out) hb)<|an_ (qb_ (g:=Xj) (o:=.cells #[I L Mm,Y Un Om.length Xn] 26 (0,0)) (by exact pP_ Oi.out) hb)<|D (qc_ (pB_ HB.out) hb);clear Oa Ok Ma Ja Oi HB;obtain ⟨Oa,Ok,Uh,Ma,Ja,Oi,HB⟩:=n_;(try clear hb);(try clear b))|((with_reducible refine qg_ (N:=10) rfl ?_);refine bx_ (N:=10) (cs:=#[I L 0,Y none 0 0]) (t:=26) ?_;intro Je hg aH hbox hb;have n_:=an_ (Kd.R_below (pR_ Oa.out) hb)<|an_ (Kd.R_below (pR_ Uh.out) hb)<|an_ (qb_ (pk_ Ma.out) hb)<|an_ (qb_ (pk_ Ja.out) hb)<|an_ (qc_ (pB_ HB.out) hb)<|an_ (hbox)<|an_ (bg_ hg (pB_ HB.out):w.heap.size≤Je)<|an_ (bg_ hg (pB_ HB.out):w.heap.size≤Je)<|an_ (nl_ hg (pk_ Ma.out):Xb≠Je)<|an_ (ng_ hg (pk_ Ma.out):Je≠Xb)<|an_ (nl_ hg (pk_ Ja.out):Ka≠Je)<|D (by rw [hg];exact Nat.ne_of_gt (qz_ (pk_ Ja.out)):Je≠Ka);clear Oa Uh Ma Ja HB;obtain ⟨Oa,Uh,Ma,Ja,HB,Of,Xs1,Ju1,Mp,Oe1,Op,Ue1⟩:=n_;clear hb hbox hg)|((with_reducible refine qg_ (N:=11) rfl ?_);refine bx_ (N:=11) (cs:=#[I L 0,I L 0,I L 0,I L 0,I L 0,I L 0,I L 0,I L 0,I L 0,I L 0,I L 0,I L 0,I L 0,I L 0]) (t:=32) ?_;intro Md hg aI hbox hb;have n_:=an_ (Kd.R_below (pR_ Oa.out) hb)<|an_ (Kd.R_below (pR_ Uh.out) hb)<|an_ (qb_ (pk_ Ma.out) hb)<|an_ (qb_ (pk_ Ja.out) hb)<|an_ (qb_ (pk_ Of.out) hb)<|an_ (qc_ (pB_ HB.out) hb)<|an_ (hbox)<|an_ (bg_ hg (pB_ HB.out):w.heap.size≤Md)<|an_ (bg_ hg (pB_ HB.out):w.heap.size≤Md)<|an_ (nl_ hg (pk_ Ma.out):Xb≠Md)<|an_ (ng_ hg (pk_ Ma.out):Md≠Xb)<|an_ (nl_ hg (pk_ Ja.out):Ka≠Md)<|an_ (ng_ hg (pk_ Ja.out):Md≠Ka)<|an_ (nl_ hg (pk_ Of.out):Je≠Md)<|D (by rw [hg];exact Nat.ne_of_gt (qz_ (pk_ Of.out)):Md≠Je);clear Oa Uh Ma Ja Of HB;obtain ⟨Oa,Uh,Ma,Ja,Of,HB,Ua,Ku1,Mu1,Mg,Xe1,Og,Jf1,Ug,Up⟩:=n_;clear hb hbox hg;(try have:=Oe1.out);(try have:=Mp.out);(try have:=Ue1.out);(try have:=Op.out);(try have:=Ug.out);(try have:=Up.out);have Kf1:=ql_ Of.out;obtain ⟨Jn,Uk,an⟩:=Kd.R_slice Uh.out;subst an;(try have:=Xe1.out);(try have:=Mg.out);(try have:=Jf1.out);(try have:=Og.out))|((with_reducible refine qd_ (f:=8) rfl ?_);refine qk_ (some 50) rfl rfl Try.func8 (by kernel_rfl) rfl #[.agg #[I L Kj,Y Jn Mj.length Uk],.agg #[I L Xa,I L Jb,I L Kb,I L Mb,I L Ob,I L Ub,I L Jc,I L Kc,I L Mc,I L Oc,I L Uc,I L Jd,I L Od,I L Xd],I L Ki] rfl Z12 ?_;(with_reducible refine (impl_TablePut.calls k Kj _ _ Mj Xa Jb Kb Mb Ob Ub Jc Kc Mc Oc Uc Jd Od Xd Ki Kf Oe Ji _ ?side1 ?side2 A9.out).mono ?_);(case side1=>refine (Kd.R_reads' (e:=52) (base:=w.heap.size) (ok:=fun k_=>((True∧some k_≠(Y Kg Xc.length Mf:Value).ownBlock)∧some k_≠(Y Un Om.length Xn:Value).ownBlock)) (n:=Mj.length) (c:=Uk) ?_).2.2;exact (pR_ (Kd.R_mono (Kd.R_mono (fr_ (fr_ (fr_ (fr_ (fr_ (fr_ (fr_ (fr_ (fr_ (fr_ (fr_ (fr_ (fr_ (fr_ (Kd.R_far (p:=⟨Je,1,none⟩) (Kd.R_far (p:=⟨Je,0,none⟩) (Kd.R_types (Kd.R_types Uh.out Of.out (by decide)) Ua.out (by decide)) (fun _ hk=>hk.1.2) (I L Kj)) (fun _ hk=>hk.1.2) (Y Jn Mj.length Uk)) 0 (I L Ke)) 1 (I L Me)) 2 (I L Ue)) 3 (I L Jf)) 4 (I L Uf)) 5 (I L Jg)) 6 (I L Jh)) 7 (I L Oh)) 8 (I L Xh)) 9 (I L Mi)) 10 (I L Oj)) 11 (I L Uj)) 12 (I L Mk)) 13 (I L Xm)) (fun _ h_=>h_.1)) (fun _ h_=>h_.1))));(case side2=>exact (Kd.R_reads' Uh.out).2.1);rintro e aJ ⟨Ou1,rfl,b,hb⟩;refine ⟨_,rfl,?_⟩;have n_:=an_ (Kd.R_elder' (pR_ (Kd.R_mono (Kd.R_mono (fr_ (fr_ (fr_ (fr_ (fr_ (fr_ (fr_ (fr_ (fr_ (fr_ (fr_ (fr_ (fr_ (fr_ (Kd.R_far (p:=⟨Je,1,none⟩) (Kd.R_far (p:=⟨Je,0,none⟩) (Kd.R_types (Kd.R_types Oa.out Of.out (by decide)) Ua.out (by decide)) (fun _ hk=>hk.1.2) (I L Kj)) (fun _ hk=>hk.1.2) (Y Jn Mj.length Uk)) 0 (I L Ke)) 1 (I L Me)) 2 (I L Ue)) 3 (I L Jf)) 4 (I L Uf)) 5 (I L Jg)) 6 (I L Jh)) 7 (I L Oh)) 8 (I L Xh)) 9 (I L Mi)) 10 (I L Oj)) 11 (I L Uj)) 12 (I L Mk)) 13 (I L Xm)) (fun _ h_=>h_.1)) (fun _ h_=>h_.1))) (Kd.R_base b) hb)<|an_ (Kd.R_elder' (pR_ (Kd.R_mono (Kd.R_mono (fr_ (fr_ (fr_ (fr_ (fr_ (fr_ (fr_ (fr_ (fr_ (fr_ (fr_ (fr_ (fr_ (fr_ (Kd.R_far (p:=⟨Je,1,none⟩) (Kd.R_far (p:=⟨Je,0,none⟩) (Kd.R_types (Kd.R_types Uh.out Of.out (by decide)) Ua.out (by decide)) (fun _ hk=>hk.1.2) (I L Kj)) (fun _ hk=>hk.1.2) (Y Jn Mj.length Uk)) 0 (I L Ke)) 1 (I L Me)) 2 (I L Ue)) 3 (I L Jf)) 4 (I L Uf)) 5 (I L Jg)) 6 (I L Jh)) 7 (I L Oh)) 8 (I L Xh)) 9 (I L Mi)) 10 (I L Oj)) 11 (I L Uj)) 12 (I L Mk)) 13 (I L Xm)) (fun _ h_=>h_.1)) (fun _ h_=>h_.1))) (Kd.R_base b) hb)<|an_ (Kd.R_lower (nw_ (nw_ b (pR_ (Kd.R_mono (Kd.R_mono (fr_ (fr_ (fr_ (fr_ (fr_ (fr_ (fr_ (fr_ (fr_ (fr_ (fr_ (fr_ (fr_ (fr_ (Kd.R_far (p:=⟨Je,1,none⟩) (Kd.R_far (p:=⟨Je,0,none⟩) (Kd.R_types (Kd.R_types Oa.out Of.out (by decide)) Ua.out (by decide)) (fun _ hk=>hk.1.2) (I L Kj)) (fun _ hk=>hk.1.2) (Y Jn Mj.length Uk)) 0 (I L Ke)) 1 (I L Me)) 2 (I L Ue)) 3 (I L Jf)) 4 (I L Uf)) 5 (I L Jg)) 6 (I L Jh)) 7 (I L Oh)) 8 (I L Xh)) 9 (I L Mi)) 10 (I L Oj)) 11 (I L Uj)) 12 (I L Mk)) 13 (I L Xm)) (fun _ h_=>h_.1)) (fun _ h_=>h_.1)))) (pR_ (Kd.R_mono (Kd.R_mono (fr_ (fr_ (fr_ (fr_ (fr_ (fr_ (fr_ (fr_ (fr_ (fr_ (fr_ (fr_ (fr_ (fr_ (Kd.R_far (p:=⟨Je,1,none⟩) (Kd.R_far (p:=⟨Je,0,none⟩) (Kd.R_types (Kd.R_types Uh.out Of.out (by decide)) Ua.out (by decide)) (fun _ hk=>hk.1.2) (I L Kj)) (fun _ hk=>hk.1.2) (Y Jn Mj.length Uk)) 0 (I L Ke)) 1 (I L Me)) 2 (I L Ue)) 3 (I L Jf)) 4 (I L Uf)) 5 (I L Jg)) 6 (I L Jh)) 7 (I L Oh)) 8 (I L Xh)) 9 (I L Mi)) 10 (I L Oj)) 11 (I L Uj)) 12 (I L Mk)) 13 (I L Xm)) (fun _ h_=>h_.1)) (fun _ h_=>h_.1)))) (qh_ (pB_ HB.out)))<|an_ (qb_ (g:=Xb) (o:=.cells #[I L Xe,Y Kg Xc.length Mf] 26 (0,0)) (by exact pP_ Ma.out) hb)<|an_ (qb_ (g:=Ka) (o:=.cells #[I L Xa,I L Jb,I L Kb,I L Mb,I L Ob,I L Ub,I L Jc,I L Kc,I L Mc,I L Oc,I L Uc,I L Jd,I L Od,I L Xd] 32 (0,0)) (by exact pP_ Ja.out) hb)<|an_ (qb_ (g:=Je) (o:=.cells #[I L Kj,Y Jn Mj.length Uk] 26 (0,0)) (by exact pP_ Of.out) hb)<|an_ (qb_ (g:=Md) (o:=.cells #[I L Ke,I L Me,I L Ue,I L Jf,I L Uf,I L Jg,I L Jh,I L Oh,I L Xh,I L Mi,I L Oj,I L Uj,I L Mk,I L Xm] 32 (0,0)) (by exact pP_ Ua.out) hb)<|D (qc_ (pB_ HB.out) hb);clear Oa Uh Ma Ja Of Ua HB;obtain ⟨Oa,Uh,Kn,Ma,Ja,Of,Ua,HB⟩:=n_;(try clear hb);(try clear hk);(try clear b))|((with_reducible refine qg_ (N:=13) rfl ?_);refine bx_ (N:=13) (cs:=#[I L 0,Y none 0 0]) (t:=26) ?_;intro Ui hg aK hbox hb;have n_:=an_ (Kd.R_below (pR_ Oa.out) hb)<|an_ (Kd.R_below (pR_ Kn.out) hb)<|an_ (qb_ (pk_ Ma.out) hb)<|an_ (qb_ (pk_ Ja.out) hb)<|an_ (qc_ (pB_ HB.out) hb)<|an_ (hbox)<|an_ (bg_ hg (pB_ HB.out):w.heap.size≤Ui)<|an_ (bg_ hg (pB_ HB.out):w.heap.size≤Ui)<|an_ (nl_ hg (pk_ Ma.out):Xb≠Ui)<|an_ (ng_ hg (pk_ Ma.out):Ui≠Xb)<|an_ (nl_ hg (pk_ Ja.out):Ka≠Ui)<|D (by rw [hg];exact Nat.ne_of_gt (qz_ (pk_ Ja.out)):Ui≠Ka);clear Oa Kn Ma Ja HB;obtain ⟨Oa,Kn,Ma,Ja,HB,Ud,Uu1,Xu1,Xk,Kq,Jm,Mq⟩:=n_;clear hb hbox hg;(try have:=Kq.out);(try have:=Xk.out);(try have:=Mq.out);(try have:=Jm.out);have Kq1:=ql_ Ud.out;obtain ⟨Kh,Mh,ao⟩:=Kd.R_slice Kn.out;subst ao))
  (try simp only [Act.put,List.setIfInBounds_toArray,List.set_cons_zero,List.set_cons_succ])
  go_cut [62] (fun ap wc=>∃ (kq:Nat) (Xo:Bool),ap=.bool Xo∧Aside0 (laws_FnPutDrop.j0 kq Ki Um Ji Xo Xe Xc Xa Jb Kb Mb Ob Ub Jc Kc Mc Oc Uc Jd Od Xd Kf Oe=some r)∧Aside0 (kq≤k)∧Aside0 (Kd.R k52 52 wc w.heap.size (fun k_=>some k_≠((Y Kh Oe.length Mh):Value).ownBlock) (Y Kg Xc.length Mf) Xc)∧Aside0 (Kd.R k52 52 wc w.heap.size (fun k_=>some k_≠((Y Kg Xc.length Mf):Value).ownBlock) (Y Kh Oe.length Mh) Oe)∧Aside0 (wc.heap[Xb]?=some (.cells #[I L Xe,(Y Kg Xc.length Mf)] 26 (0,0)))∧Aside0 (wc.heap[Ka]?=some (.cells #[I L Xa,I L Jb,I L Kb,I L Mb,I L Ob,I L Ub,I L Jc,I L Kc,I L Mc,I L Oc,I L Uc,I L Jd,I L Od,I L Xd] 32 (0,0)))∧Aside0 (wc.heap[Ui]?=some (.cells #[I L Kf,(Y Kh Oe.length Mh)] 26 (0,0)))∧Aside0 (Below w.heap.size w wc))
  case first =>
   have H:=B.out;clear B
   by_cases i:Ji=Um
   ·rw [if_pos i] at H
    have v:(Ji == Um)=true:=beq_iff_eq.mpr i;have X:(Ji != Um)=false:=bne_eq_false_iff_eq.mpr i;clear i;refine rw_ v ?_
    by_cases j:Ji=0
    ·rw [if_pos j] at H
     have Z:(Ji == 0)=true:=beq_iff_eq.mpr j;have aa:(Ji != 0)=false:=bne_eq_false_iff_eq.mpr j;clear j;have H':=D H;clear H
     go_wp2_with (first|((with_reducible refine gst_ 32 rfl ?_);refine sa32_ ?_)|((with_reducible refine gld_ 32 rfl ?_);refine la32_ ?_))
     go_meet
     case rel=>exact ⟨_,(Jq),Z35,H',⟨by first|omega|exact Nat.le_refl _⟩,⟨rM_ (Kd.R_types Oa.out Ud.out (by decide)) (fun _ hk=>hk.1.2)⟩,⟨rM_ (Kd.R_types Kn.out Ud.out (by decide)) (fun _ hk=>hk.1.1.2)⟩,⟨pP_ Ma.out⟩,⟨pP_ Ja.out⟩,⟨pP_ Ud.out⟩,⟨pB_ HB.out⟩⟩
    ·rw [if_neg j] at H
     have Z:(Ji == 0)=false:=beq_eq_false_iff_ne.mpr j;have aa:(Ji != 0)=true:=bne_iff_ne.mpr j;have H':=D H;clear H
     go_wp2_with (first|((with_reducible refine gst_ 32 rfl ?_);refine sa32_ ?_)|((with_reducible refine gld_ 32 rfl ?_);refine la32_ ?_))
     go_meet
     case rel=>exact ⟨_,(true),Z35,H',⟨by first|omega|exact Nat.le_refl _⟩,⟨rM_ (Kd.R_types Oa.out Ud.out (by decide)) (fun _ hk=>hk.1.2)⟩,⟨rM_ (Kd.R_types Kn.out Ud.out (by decide)) (fun _ hk=>hk.1.1.2)⟩,⟨pP_ Ma.out⟩,⟨pP_ Ja.out⟩,⟨pP_ Ud.out⟩,⟨pB_ HB.out⟩⟩
   ·rw [if_neg i] at H
    have v:(Ji == Um)=false:=beq_eq_false_iff_ne.mpr i;have X:(Ji != Um)=true:=bne_iff_ne.mpr i;refine rw_ v ?_;have H':=D H;clear H
    go_wp2_with (first|((with_reducible refine gst_ 32 rfl ?_);refine sa32_ ?_)|((with_reducible refine gld_ 32 rfl ?_);refine la32_ ?_))
    go_meet
    case rel=>exact ⟨_,(true),Z35,H',⟨by first|omega|exact Nat.le_refl _⟩,⟨rM_ (Kd.R_types Oa.out Ud.out (by decide)) (fun _ hk=>hk.1.2)⟩,⟨rM_ (Kd.R_types Kn.out Ud.out (by decide)) (fun _ hk=>hk.1.1.2)⟩,⟨pP_ Ma.out⟩,⟨pP_ Ja.out⟩,⟨pP_ Ud.out⟩,⟨pB_ HB.out⟩⟩
  case rest =>
   clear B
   (try clear c1);(try clear c2);(try clear p2);(try clear c3);(try clear c4);(try clear c5);(try clear c6);(try clear c7);(try clear c8);(try clear aN);(try clear aO);(try clear aP);(try clear aQ);(try clear aR);(try clear aS);(try clear aT);(try clear aU);(try clear aV);(try clear aW);(try clear i);(try clear v);(try clear X);(try clear j);(try clear Z);(try clear aa);(try clear Xq);skip;(try clear Ky);skip;(try clear Xd1);(try clear Kf1);skip;skip;(try clear Kq1)
   obtain ⟨kq,Xo,rfl,HA,aX,Xg,Xi,Ma,Ja,Ud,HB⟩:=hcut
   cases kq with
   | zero=>exact absurd HA.out (by simp [laws_FnPutDrop.j0])
   | succ kj9 =>
    have H:=HA.out;clear HA;simp only [laws_FnPutDrop.j0] at H
    by_cases x:Xo=true
    ·subst x
     rw [if_pos rfl] at H;obtain rfl:=Option.some.inj H
     go_wp2_with (first|((with_reducible refine gst_ 32 rfl ?_);refine sa32_ ?_)|((with_reducible refine gld_ 32 rfl ?_);refine la32_ ?_))
     go_ret;exact ⟨er_,pB_ HB.out⟩
    ·replace x:=Bool.eq_false_iff.mpr x
     subst x;rw [if_neg (show ¬ (false=true) by decide)] at H;obtain ⟨⟨Jo,Xq1⟩,ab,H⟩:=bs_.mp H;(try dsimp only at H);have aq:=D ab;clear ab;obtain ⟨⟨Km,Jk,Ko⟩,ac,H⟩:=bs_.mp H;(try dsimp only at H);have ar:=D ac;clear ac
     by_cases y:Xq1=true
     ·subst y
      rw [if_pos rfl] at H
      by_cases l:Jo=Ki
      ·rw [if_pos l] at H
       have au:(Jo == Ki)=true:=beq_iff_eq.mpr l;have av:(Jo != Ki)=false:=bne_eq_false_iff_eq.mpr l;clear l
       by_cases m:Ko=0
       ·rw [if_pos m] at H
        have aw:(Ko == 0)=true:=beq_iff_eq.mpr m;have ax:(Ko != 0)=false:=bne_eq_false_iff_eq.mpr m;clear m;obtain ⟨Jr1,ad,H⟩:=bs_.mp H;(try dsimp only at H);have ay:=D ad;clear ad;obtain rfl:=Option.some.inj H;(try have:=Kq.out);(try have:=Xk.out);(try have:=Mq.out);(try have:=Jm.out);have Jv1:=ql_ Ud.out;(try have:=Uo.out);(try have:=Xf.out)
        go_wp2_with (first|((with_reducible refine gst_ 32 rfl ?_);refine sa32_ ?_)|((with_reducible refine gld_ 32 rfl ?_);refine la32_ ?_)|((with_reducible refine qd_ (f:=9) rfl ?_);refine qk_ (some 69) rfl rfl Try.func9 (by kernel_rfl) rfl #[.agg #[I L Kf,Y Kh Oe.length Mh],.agg #[I L Xa,I L Jb,I L Kb,I L Mb,I L Ob,I L Ub,I L Jc,I L Kc,I L Mc,I L Oc,I L Uc,I L Jd,I L Od,I L Xd]] rfl Z12 ?_;(with_reducible refine (impl_TableFind.calls kj9 Kf _ _ Oe Xa Jb Kb Mb Ob Ub Jc Kc Mc Oc Uc Jd Od Xd Jo true _ ?side1 ?side2 aq.out).mono ?_);(case side1=>exact pC_ ((Kd.R_reads' Xi.out).2.2));(case side2=>exact (Kd.R_reads' Xi.out).2.1);rintro e aY ⟨rfl,hb⟩;refine ⟨_,rfl,?_⟩;have n_:=an_ (Kd.R_below (pR_ Xg.out) hb)<|an_ (Kd.R_below (pR_ Xi.out) hb)<|an_ (qb_ (pk_ Ma.out) hb)<|an_ (qb_ (pk_ Ja.out) hb)<|an_ (qb_ (pk_ Ud.out) hb)<|D (qc_ (pB_ HB.out) hb);clear Xg Xi Ma Ja Ud HB;obtain ⟨Xg,Xi,Ma,Ja,Ud,HB⟩:=n_;(try clear hb);have Mb2:=ql_ Ud.out)|((with_reducible refine qd_ (f:=10) rfl ?_);refine qk_ (some 75) rfl rfl Try.func10 (by kernel_rfl) rfl #[.agg #[I L Kf,Y Kh Oe.length Mh],.agg #[I L Xa,I L Jb,I L Kb,I L Mb,I L Ob,I L Ub,I L Jc,I L Kc,I L Mc,I L Oc,I L Uc,I L Jd,I L Od,I L Xd]] rfl Z12 ?_;(with_reducible refine (impl_TableDrop.calls kj9 Kf _ _ Oe Xa Jb Kb Mb Ob Ub Jc Kc Mc Oc Uc Jd Od Xd Km Jk Ko _ ?side1 ?side2 ar.out).mono ?_);(case side1=>exact pC_ ((Kd.R_reads' Xi.out).2.2));(case side2=>exact (Kd.R_reads' Xi.out).2.1);rintro e aZ ⟨Ug2,rfl,b,hb⟩;refine ⟨_,rfl,?_⟩;have n_:=an_ (Kd.R_elder' (pR_ Xg.out) (Kd.R_base b) hb)<|an_ (Kd.R_elder' (pR_ Xi.out) (Kd.R_base b) hb)<|an_ (Kd.R_lower (nw_ (nw_ b (pR_ Xg.out)) (pR_ Xi.out)) (qh_ (pB_ HB.out)))<|an_ (qb_ (pk_ Ma.out) hb)<|D (qc_ (pB_ HB.out) hb);clear Xg Xi Ma HB;obtain ⟨Xg,Xi,Kk,Ma,HB⟩:=n_;(try clear hb);(try clear b))|((with_reducible refine qg_ (N:=17) rfl ?_);refine bx_ (N:=17) (cs:=#[I L 0,Y none 0 0]) (t:=26) ?_;intro Mn hg a0 hbox hb;have n_:=an_ (Kd.R_below (pR_ Xg.out) hb)<|an_ (Kd.R_below (pR_ Kk.out) hb)<|an_ (qb_ (pk_ Ma.out) hb)<|an_ (qc_ (pB_ HB.out) hb)<|an_ (hbox)<|an_ (bg_ hg (pB_ HB.out):w.heap.size≤Mn)<|an_ (bg_ hg (pB_ HB.out):w.heap.size≤Mn)<|an_ (nl_ hg (pk_ Ma.out):Xb≠Mn)<|D (by rw [hg];exact Nat.ne_of_gt (qz_ (pk_ Ma.out)):Mn≠Xb);clear Xg Kk Ma HB;obtain ⟨Xg,Kk,Ma,HB,Jj,Xg2,Jh2,Xp,Kr1⟩:=n_;clear hb hbox hg;(try have:=Kr1.out);(try have:=Xp.out);have Kh2:=ql_ Jj.out;obtain ⟨Mo,On,az⟩:=Kd.R_slice Kk.out;subst az;have Xh2:=ql_ Ma.out)|(go_at_call 11;(with_reducible refine (laws_sameTable.calls kj9 Km _ _ Jk Xe _ _ Xc Jr1 _ ?side1 ?side2 ?side3 ?side4 ay.out).mono ?_);(case side1=>refine (Kd.R_reads' (e:=52) (base:=w.heap.size) (ok:=fun k_=>((True∧some k_≠(Y Kg Xc.length Mf:Value).ownBlock)∧some k_≠(Y Kh Oe.length Mh:Value).ownBlock)) (n:=Jk.length) (c:=On) ?_).2.2;exact (rM_ (Kd.R_types Kk.out Jj.out (by decide)) (fun _ h_=>h_.1)));(case side2=>exact (Kd.R_reads' Kk.out).2.1);(case side3=>refine (Kd.R_reads' (e:=52) (base:=w.heap.size) (ok:=fun k_=>(some k_≠(Y Kh Oe.length Mh:Value).ownBlock∧some k_≠(Y Mo Jk.length On:Value).ownBlock)) (n:=Xc.length) (c:=Mf) ?_).2.2;exact (rM_ (Kd.R_types Xg.out Jj.out (by decide)) (fun _ h_=>h_.1)));(case side4=>exact (Kd.R_reads' Xg.out).2.1);rintro e a1 ⟨rfl,hb⟩;have n_:=an_ (Kd.R_below (rM_ (Kd.R_types Xg.out Jj.out (by decide)) (fun _ h_=>h_.1)) hb)<|an_ (Kd.R_below (rM_ (Kd.R_types Kk.out Jj.out (by decide)) (fun _ h_=>h_.1)) hb)<|an_ (qb_ (g:=Xb) (o:=.cells #[I L Xe,Y Kg Xc.length Mf] 26 (0,0)) (by exact pP_ Ma.out) hb)<|an_ (qb_ (g:=Mn) (o:=.cells #[I L Km,Y Mo Jk.length On] 26 (0,0)) (by exact pP_ Jj.out) hb)<|D (qc_ (pB_ HB.out) hb);clear Xg Kk Ma Jj HB;obtain ⟨Xg,Kk,Ma,Jj,HB⟩:=n_;(try clear hb)))
        go_ret;exact ⟨er_,pB_ HB.out⟩
       ·rw [if_neg m] at H
        have aw:(Ko == 0)=false:=beq_eq_false_iff_ne.mpr m;have ax:(Ko != 0)=true:=bne_iff_ne.mpr m;exact absurd (Option.some.inj H) (by rw [hr_.out];decide)
      ·rw [if_neg l] at H
       have au:(Jo == Ki)=false:=beq_eq_false_iff_ne.mpr l;have av:(Jo != Ki)=true:=bne_iff_ne.mpr l;exact absurd (Option.some.inj H) (by rw [hr_.out];decide)
     ·replace y:=Bool.eq_false_iff.mpr y
      subst y;rw [if_neg (show ¬ (false=true) by decide)] at H;exact absurd (Option.some.inj H) (by rw [hr_.out];decide)
def laws_FnPutDrop.Pure:Prop:=∀ (l0:List Int),l0.length≤maxLen→l0.length * 1≤140737488351232→(∀ x ∈ l0,(Lit.int .u8 x).wf=true)→∃ k,laws_FnPutDrop.f k l0=some true
theorem laws_FnPutDrop.walk (P:laws_FnPutDrop.Pure) (a0:Option Addr) (len0 cap0:Nat) (a:List Int) (w:World) (b:(a0=none∧len0=0∧cap0=0∧a=[])∨∃ x,a0=some x∧len0≤cap0∧cap0≤maxLen∧a.length=cap0∧(∀ i,i < a.length→w.cell? (x.add i)=some (.int .u8 (a.getD i 0)))∧∀ n ∈ a,(Lit.int .u8 n).wf=true) (c:len0 * 1≤140737488351232) :
  Calls Try.prog 3 #[Y a0 len0 cap0] w fun e w'=>e=.returned (.bool true)∧Below w.heap.size w w':=by
 obtain ⟨l0,rfl,g,j,l,m⟩:=ReadsInt.ofRowC b
 obtain ⟨k,h⟩:=P l0 j c l
 refine (laws_FnPutDrop.calls k _ _ l0 true w (Kd.C_of_reads (d:=(0:Int)) (h1:=fun _=>rfl) g) m ⟨rfl⟩ h).mono ?_
 rintro e w' ⟨rfl,hd⟩
 exact ⟨rfl,hd⟩
end Go.Proofs.Yteahaehbciccmaa.PFnPutDrop
