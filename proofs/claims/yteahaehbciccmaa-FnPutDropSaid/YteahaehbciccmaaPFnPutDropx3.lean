-- by a program of this session's, over the kit's words
import Derived.Test.YteahaehbciccmaaPZFnPutDrop
import Derived.Test.YteahaehbciccmaaPFnPutDropx0
namespace Go.Proofs.Yteahaehbciccmaa.PFnPutDrop
open Go.RowKit Go.Proofs.YteahaehbciccmaaW.PrintWords Go.Proofs.YteahaehbciccmaaW.PrintLast Go.Proofs.YteahaehbciccmaaW.PrintMore Go.Proofs.YteahaehbciccmaaV Go.Proofs.Yteahaehbciccmaa.ZFnPutDrop
open Go.Value renaming int → I, slice → Y
open Go.IntKind renaming i64 → L
open Aside0 renaming mk → D
open Option renaming bind_eq_some_iff → bs_
attribute [local go_sem] qad_ qab_ qak_ qaj_ q4_ q3_ qac_ qaa_
set_option linter.unusedVariables false
set_option linter.unusedSimpArgs false
set_option maxHeartbeats 8000000
set_option maxRecDepth 100000
def laws_big.f (l0:List Int):Option (Bool):=some (decide ((l0.length:Int) > 1048576))
theorem laws_big.calls (a:Option Addr) (b:Nat) (l0:List Int) (r:Bool) (w:World) (c:Kd.C (Kd.int .u8) w a l0.length l0) (d:l0.length≤b) (h:laws_big.f l0=some r) :
  Calls Try.prog 4 #[Y a l0.length b] w fun e w'=>e=.returned (.bool r)∧Drawn0 w w':=by
 have g:=D c
 have i:=D d
 clear c d
 have H:(some (decide ((l0.length:Int) > 1048576)))=some r:=h
 clear h
 obtain rfl:=Option.some.inj H
 go_enter Try.func4,Try.ntmps4
 go_wp2
 go_ret
 exact ⟨by first | rfl | (simp;done) | (simp [*];done),by repeat (first | exact Drawn0.refl _ | apply Drawn0.step)⟩
def IsS61 (b W:World) (g:Nat) (a:List Int) (d e:Int):Prop:=∃ c h,W.heap[g]?=some (.cells #[Y c a.length h,I L d,I L e] 61 (0,0))∧b.heap.size≤g∧Kd.C (Kd.int .u8) b c a.length a
theorem IsS61.grown {a W:World} {g:Nat} {b:List Int} {c:Int} {d:Int} {W1:World} {row:Option Nat} (h:IsS61 a W g b c d) (hw:W.grownBy W1 row) (hne:some g≠row):IsS61 a W1 g b c d:=by
 obtain ⟨e,i,hb,hg,j⟩:=h
 exact ⟨e,i,qv_ hb hw hne,hg,j⟩
theorem IsS61.own_neN {a W:World} {g:Nat} {b:List Int} {c:Int} {i:Int} {α:Type} {d:Kd α} {e:Nat} {base:Nat} {ok:Nat→Prop} {v:Value} {xs:List α} (h:IsS61 a W g b c i) (ho:Kd.N d e W base ok v xs) (ht:e≠61):some g≠v.ownBlock:=by
 obtain ⟨j,k,hb,hg,l⟩:=h
 exact Kd.N_ne ho hb ht
theorem IsS61.fresh {a W:World} {g:Nat} {b:List Int} {c:Int} {d:Int} (h:IsS61 a W g b c d):∀ k,W.heap.size≤k→k≠g:=by
 obtain ⟨e,i,hb,hg,j⟩:=h
 exact Kd.freshB hb
theorem IsS61.kept {a W:World} {g:Nat} {b:List Int} {c:Int} {d:Int} {W1:World} {S:Nat→Prop} (h:IsS61 a W g b c d) (hk:Kept W W1 S) (hne:¬ S g):IsS61 a W1 g b c d:=by
 obtain ⟨e,i,hb,hg,j⟩:=h
 exact ⟨e,i,blk_kept hb hk hne,hg,j⟩
theorem IsS61.below {a W:World} {g:Nat} {b:List Int} {c:Int} {d:Int} {W1:World} (h:IsS61 a W g b c d) (hw:Below W.heap.size W W1):IsS61 a W1 g b c d:=h.grown (grown_of_below hw none) (by simp)
theorem IsS61.alloc {a W:World} {g:Nat} {b:List Int} {c:Int} {d:Int} (h:IsS61 a W g b c d) (o:Obj):IsS61 a (W.alloc o) g b c d:=h.below (q0_ (Below.refl _ _) o)
theorem IsS61.drewN {a W:World} {g:Nat} {b:List Int} {c:Int} {d:Int} (h:IsS61 a W g b c d) (m:Nat):IsS61 a (W.drewN m) g b c d:=h
theorem IsS61.drew {a W:World} {g:Nat} {b:List Int} {c:Int} {d:Int} (h:IsS61 a W g b c d):IsS61 a W.drew g b c d:=h
theorem IsS61.at_ {a W:World} {g:Nat} {b:List Int} {c:Int} {d:Int} {w':World} {m:Nat} (hq:W.drewN m=w') (h:IsS61 a W g b c d):IsS61 a w' g b c d:=by subst hq;exact IsS61.drewN h m
theorem IsS61.apart {a W:World} {g:Nat} {b:List Int} {c:Int} {i:Int} {α:Type} {d:Kd α} {e:Nat} {base:Nat} {ok:Nat→Prop} {v:Value} {xs:List α} (h:IsS61 a W g b c i) (ho:d.R e W base ok v xs) (ht:∀ q,q ∈ e :: d.E→q≠61):d.R e W base (fun k=>ok k∧k≠g) v xs:=by
 obtain ⟨j,l,hb,hg,m⟩:=h
 exact Kd.R_types ho hb ht
theorem IsS61.own_ne {a W:World} {g:Nat} {b:List Int} {c:Int} {i:Int} {α:Type} {d:Kd α} {e:Nat} {base:Nat} {ok:Nat→Prop} {v:Value} {xs:List α} (h:IsS61 a W g b c i) (ho:d.R e W base ok v xs) (ht:e≠61):some g≠v.ownBlock:=by
 obtain ⟨j,k,hb,hg,l⟩:=h
 exact Kd.R_ne ho hb ht
theorem IsS61.apartQ {a W:World} {g:Nat} {b:List Int} {c:Int} {i:Int} {α:Type} {d:Kd α} {e:Nat} {base:Nat} {ok:Nat→Prop} {v:Value} {xs:List α} (h:IsS61 a W g b c i) (ho:d.Q e W base ok v xs) (ht:∀ q,q ∈ e :: d.E→q≠61):d.Q e W base (fun k=>ok k∧k≠g) v xs:=by
 obtain ⟨j,l,hb,hg,m⟩:=h
 exact Kd.Q_types ho hb ht
theorem IsS61.own_neQ {a W:World} {g:Nat} {b:List Int} {c:Int} {i:Int} {α:Type} {d:Kd α} {e:Nat} {base:Nat} {ok:Nat→Prop} {v:Value} {xs:List α} (h:IsS61 a W g b c i) (ho:d.Q e W base ok v xs) (ht:e≠61):some g≠v.ownBlock:=by
 obtain ⟨j,k,hb,hg,l⟩:=h
 exact Kd.Q_ne ho hb ht
theorem IsS61.apartS {a W:World} {g:Nat} {b:List Int} {c:Int} {i:Int} {α:Type} {d:Kd α} {e:Nat} {base:Nat} {ok:Nat→Prop} {v:Value} {xs:List α} (h:IsS61 a W g b c i) (ho:d.S e W base ok v xs) (ht:∀ q,q ∈ e :: d.E→q≠61):d.S e W base (fun k=>ok k∧k≠g) v xs:=by
 obtain ⟨j,l,hb,hg,m⟩:=h
 exact Kd.S_types ho hb ht
theorem IsS61.own_neS {a W:World} {g:Nat} {b:List Int} {c:Int} {i:Int} {α:Type} {d:Kd α} {e:Nat} {base:Nat} {ok:Nat→Prop} {v:Value} {xs:List α} (h:IsS61 a W g b c i) (ho:d.S e W base ok v xs) (ht:e≠61):some g≠v.ownBlock:=by
 obtain ⟨j,k,hb,hg,l⟩:=h
 exact Kd.S_ne ho hb ht
theorem IsS61.lt {a W:World} {g:Nat} {b:List Int} {c:Int} {d:Int} (h:IsS61 a W g b c d):g < W.heap.size:=by
 obtain ⟨e,i,hb,hg,j⟩:=h
 exact qz_ hb
theorem IsS61.ge {a W:World} {g:Nat} {b:List Int} {c:Int} {d:Int} (h:IsS61 a W g b c d):a.heap.size≤g:=by
 obtain ⟨e,i,hb,hg,j⟩:=h
 exact hg
theorem IsS61.ne_blk {c W:World} {g:Nat} {d:List Int} {e:Int} {i:Int} {a:Nat} {cs:Array Value} {t:TypeId} {fr:Nat×Nat} (h:IsS61 c W g d e i) (b:W.heap[a]?=some (.cells cs t fr)) (ht:t≠61):g≠a:=by
 obtain ⟨j,k,hb,hg,l⟩:=h
 rintro rfl
 rw [hb] at b
 injection b with b
 injection b with _ ht2
 exact ht ht2.symm
theorem IsS61.far {a W:World} {g:Nat} {b:List Int} {c:Int} {d:Int} {p:Addr} (h:IsS61 a W g b c d) (hne:g≠p.block) (u:Value):IsS61 a (W.setCell p u) g b c d:=by
 obtain ⟨e,i,hb,hg,j⟩:=h
 exact ⟨e,i,qf_ hb hne u,hg,j⟩
theorem cellS61_0 {W:World} {g:Nat} {a:Option Addr} {b:Nat} {c:List Int} {d:Int} {e:Int} (h:W.heap[g]?=some (.cells #[Y a c.length b,I L d,I L e] 61 (0,0))):W.cell? ⟨g,0,none⟩=some (Y a c.length b):=(qi_ h 0).trans rfl
theorem cellS61_1 {W:World} {g:Nat} {b:Option Addr} {c:Nat} {d:List Int} {a:Int} {e:Int} (h:W.heap[g]?=some (.cells #[Y b d.length c,I L a,I L e] 61 (0,0))):W.cell? ⟨g,1,none⟩=some (I L a):=(qi_ h 1).trans rfl
theorem IsS61.set_1 {a W:World} {g:Nat} {b:List Int} {d:Int} {c:Int} (h:IsS61 a W g b d c) (x:Int):IsS61 a (W.setCell ⟨g,1,none⟩ (I L x)) g b x c:=by
 obtain ⟨e,i,hb,hg,j⟩:=h
 exact ⟨e,i,by simpa using blk_set hb 1 (I L x),hg,j⟩
theorem cellS61_2 {W:World} {g:Nat} {b:Option Addr} {c:Nat} {d:List Int} {e:Int} {a:Int} (h:W.heap[g]?=some (.cells #[Y b d.length c,I L e,I L a] 61 (0,0))):W.cell? ⟨g,2,none⟩=some (I L a):=(qi_ h 2).trans rfl
theorem IsS61.set_2 {a W:World} {g:Nat} {b:List Int} {c:Int} {d:Int} (h:IsS61 a W g b c d) (x:Int):IsS61 a (W.setCell ⟨g,2,none⟩ (I L x)) g b c x:=by
 obtain ⟨e,i,hb,hg,j⟩:=h
 exact ⟨e,i,by simpa using blk_set hb 2 (I L x),hg,j⟩
theorem IsS61.new (a W:World) (c:Option Addr) (d:Nat) (b:List Int) (e g:Int) (hB:Below a.heap.size a W) (h:Kd.C (Kd.int .u8) a c b.length b):IsS61 a (W.alloc (.cells #[Y c b.length d,I L e,I L g] 61)) W.heap.size b e g:=⟨c,d,by simpa using heap_alloc_new W _,hB.size,h⟩
theorem IsS61.farN {a W:World} {g b o:Nat} {c:List Int} {d:Int} {e:Int} {vs:List Value} (h:IsS61 a W g c d e) (hne:g≠b):IsS61 a (putN W b o vs) g c d e:=putN_ind (C:=fun w=>IsS61 a w g c d e) (fun _ _ _ h=>IsS61.far h hne _) vs W o h
theorem pS61_ {a W W':World} {g:Nat} {b:List Int} {c:Int} {d:Int} {e0:List Int} {e1:Int} {e2:Int} (h:IsS61 a W g b c d) (k:IsS61 a W g b c d→IsS61 a W' g e0 e1 e2:=by intro h;repeat (first | (with_reducible first | exact h | apply IsS61.alloc | apply IsS61.drewN | apply IsS61.drew | apply IsS61.set_1 | apply IsS61.set_2 | refine IsS61.far ?_ (Aside0.out (by assumption)) _ | refine IsS61.farN ?_ (Aside0.out (by assumption))) | exact h)):IsS61 a W' g e0 e1 e2:=k h
theorem pU61_ {a W W':World} {g:Nat} {b:List Int} {c:Int} {d:Int} (h:IsS61 a W g b c d) (k:IsS61 a W g b c d→IsS61 a W' g b c d:=by intro h;repeat (first | (with_reducible first | exact h | apply IsS61.alloc | apply IsS61.drewN | apply IsS61.drew | apply IsS61.set_1 | apply IsS61.set_2 | refine IsS61.far ?_ (Aside0.out (by assumption)) _ | refine IsS61.farN ?_ (Aside0.out (by assumption))) | exact h)):IsS61 a W' g b c d:=k h
theorem pT61_ {B:Nat} {a w w':World} (h:Below B a w) (k:Below B a w→Below B a w':=by intro h;repeat (first | (with_reducible first | exact h | apply q0_ | apply q2_ | apply qr_ | refine qe_ ?_ (IsS61.ge (Aside0.out (by assumption))) | refine qe_ ?_ (Aside0.out (by assumption)) | refine belowN_ ?_ (IsS61.ge (Aside0.out (by assumption))) | refine belowN_ ?_ (Aside0.out (by assumption))) | exact h)):Below B a w':=k h
def spec_l01Open.f (l0:List Int):Option (List Int×Int×Int):=some (l0,0,71+((l0.length:Int) % 1000))
theorem spec_l01Open.calls (c:Option Addr) (d:Nat) (l0 g:List Int) (i j:Int) (a w:World) (hB:Below a.heap.size a w) (k:Kd.C (Kd.int .u8) a c l0.length l0) (l:l0.length≤d) (h:spec_l01Open.f l0=some (g,i,j)) :
  Calls Try.prog 12 #[Y c l0.length d] w fun e w'=>∃ g_:Nat,e=.returned (.pointer (some ⟨g_,0,none⟩))∧IsS61 a w' g_ g i j∧Below a.heap.size a w'∧Below w.heap.size w w':=by
 have hu61:=Try.underlying61
 have m:=D k
 have r:=D l
 clear k l
 have HBW:=D (Below.refl w.heap.size w)
 have n:=D hB.size
 have HB:=D hB
 clear hB
 have H:(some (l0,0,71+((l0.length:Int) % 1000)))=some (g,i,j):=h
 clear h
 simp only [Option.some.injEq,Prod.mk.injEq] at H
 obtain ⟨rfl,rfl,rfl⟩:=H
 go_enter Try.func12,Try.ntmps12
 go_wp2_with (first|((with_reducible refine qg_ (N:=9) rfl ?_);refine bx_ (N:=9) (cs:=#[Y c l0.length d,I L 0,I L (71+((l0.length:Int) % 1000))]) (t:=61) ?_;intro b hg s hbox hb;have n_:=an_ (qc_ HBW.out hb)<|an_ (qc_ (pB_ HB.out) hb)<|an_ (hbox)<|an_ ((by rw [hg];exact (qh_ Z13):w.heap.size≤b))<|D (Nat.le_trans n.out (by rw [hg];exact (qh_ Z13):w.heap.size≤b):a.heap.size≤b);clear HBW HB;obtain ⟨HBW,HB,o,p,q⟩:=n_;clear hb hbox hg))
 go_ret
 exact ⟨_,rfl,(show IsS61 a _ b l0 0 (71+((l0.length:Int) % 1000)) from ⟨_,_,by refine pk_ ?_;exact o.out,q.out,m.out⟩),pB_ HB.out,by repeat (first|(with_reducible first|exact HBW.out|apply q0_|apply q2_|apply qr_|refine qe_ ?_ p.out)|exact HBW.out)⟩
def spec_l01Cur_pick.f (b:List Int) (a c a1:Int):Option (Int×Int×Int):=if a1 < 2 then (some (0,a,c)) else (if a < (b.length:Int) then (if 0≤a then (if a1=0 then (none) else (some (Int.tmod (wrap64 (rd b a)) a1,wrap64 (a+1),c))) else (none)) else (if (b.length:Int) > 0 then (if (b.length:Int)=0 then (none) else (if 0≤(Int.tmod a (b.length:Int)) then (if (Int.tmod a (b.length:Int)) < (b.length:Int) then (if a1=0 then (none) else (some (Int.tmod (wrap64 ((wrap64 (Int.tdiv (Int.tmod (wrap64 ((wrap64 (c * 1103))+12345)) 65521) 7))+(wrap64 (rd b (Int.tmod a (b.length:Int)))))) a1,wrap64 (a+1),Int.tmod (wrap64 ((wrap64 (c * 1103))+12345)) 65521))) else (none)) else (none))) else (if a1=0 then (none) else (some (Int.tmod (0:Int) a1,wrap64 (a+1),Int.tmod (wrap64 ((wrap64 (c * 1103))+12345)) 65521)))))
theorem spec_l01Cur_pick.calls (g:Nat) (a:List Int) (b c a1 l m n:Int) (i w:World) (hI:IsS61 i w g a b c) (hB:Below i.heap.size i w) (h:spec_l01Cur_pick.f a b c a1=some (l,m,n)) :
  Calls Try.prog 15 #[.pointer (some ⟨g,0,none⟩),I L a1] w fun e w'=>e=.returned (I L l)∧IsS61 i w' g a m n∧Below i.heap.size i w'∧KeepBut w w' g none:=by
 have HI0:=D hI
 have HK:=D (KeepBut.refl w g none)
 have HL:=D hB.size
 clear hI
 have O:=D hB.size
 have HB:=D hB
 clear hB
 have H:(if a1 < 2 then (some (0,b,c)) else (if b < (a.length:Int) then (if 0≤b then (if a1=0 then (none) else (some (Int.tmod (wrap64 (rd a b)) a1,wrap64 (b+1),c))) else (none)) else (if (a.length:Int) > 0 then (if (a.length:Int)=0 then (none) else (if 0≤(Int.tmod b (a.length:Int)) then (if (Int.tmod b (a.length:Int)) < (a.length:Int) then (if a1=0 then (none) else (some (Int.tmod (wrap64 ((wrap64 (Int.tdiv (Int.tmod (wrap64 ((wrap64 (c * 1103))+12345)) 65521) 7))+(wrap64 (rd a (Int.tmod b (a.length:Int)))))) a1,wrap64 (b+1),Int.tmod (wrap64 ((wrap64 (c * 1103))+12345)) 65521))) else (none)) else (none))) else (if a1=0 then (none) else (some (Int.tmod (0:Int) a1,wrap64 (b+1),Int.tmod (wrap64 ((wrap64 (c * 1103))+12345)) 65521))))))=some (l,m,n):=h
 clear h
 by_cases c3:a1 < 2
 ·rw [if_pos c3] at H
  have E:decide (a1 < 2)=true:=decide_eq_true c3;clear c3;simp only [Option.some.injEq,Prod.mk.injEq] at H;obtain ⟨rfl,rfl,rfl⟩:=H;go_enter Try.func15,Try.ntmps15
  go_wp2
  repeat (go_quiet (fail);try go_wp2)
  go_ret;exact ⟨er_,pS61_ HI0.out,pT61_ HB.out,pK_ HK.out⟩
 ·rw [if_neg c3] at H
  have E:decide (a1 < 2)=false:=decide_eq_false c3;clear c3
  by_cases c4:b < (a.length:Int)
  ·rw [if_pos c4] at H
   have G:decide (b < (a.length:Int))=true:=decide_eq_true c4;clear c4
   by_cases c5:0≤b
   ·rw [if_pos c5] at H
    have P:decide (0≤b)=true:=decide_eq_true c5;clear c5
    by_cases c6:a1=0
    ·rw [if_pos c6] at H
     exact absurd H (by simp)
    ·rw [if_neg c6] at H
     have T:(a1 == 0)=false:=beq_eq_false_iff_ne.mpr c6;have U:(a1 != 0)=true:=bne_iff_ne.mpr c6;simp only [Option.some.injEq,Prod.mk.injEq] at H;obtain ⟨rfl,rfl,rfl⟩:=H;obtain ⟨ASz7_0,cSz7_0,HGz7,hgz7,HSz7_0⟩:=HI0.out;have W:=cellS61_0 HGz7;have X:=cellS61_1 HGz7;have Z:=cellS61_2 HGz7;have aa:=qj_ HGz7 1;have ab:=qj_ HGz7 2;clear HGz7 hgz7;have t:0≤(b:Int):=od_ Z22;have u:b < (a.length:Int):=od_ Z22;obtain ⟨ac,J,z⟩:=Kd.at_int HSz7_0 b t u;cases J;replace z:=pw_cell_below HB.out z;replace t:=eq_true t;replace u:=eq_true u;go_enter Try.func15,Try.ntmps15
     go_wp2
     repeat (go_quiet (fail);try go_wp2)
     go_ret;exact ⟨er_,pS61_ HI0.out,pT61_ HB.out,pK_ HK.out⟩
   ·rw [if_neg c5] at H
    exact absurd H (by simp)
  ·rw [if_neg c4] at H
   have G:decide (b < (a.length:Int))=false:=decide_eq_false c4;clear c4;have A:=D H;clear H;obtain ⟨ASz9_0,cSz9_0,HGz9,hgz9,HSz9_0⟩:=HI0.out;have ad:=cellS61_0 HGz9;have ae:=cellS61_1 HGz9;have af:=cellS61_2 HGz9;have ag:=qj_ HGz9 1;have ah:=qj_ HGz9 2;clear HGz9 hgz9;go_enter Try.func15,Try.ntmps15
   go_upto_if 44 with (fail)
   repeat (go_quiet (fail);go_upto_if 44 with (fail))
   refine relet_ (F:=fun o=>Aside0 (IsS61 i o g a b (Int.tmod (wrap64 ((wrap64 (c * 1103))+12345)) 65521))∧Aside0 (KeepBut w o g none)∧Aside0 (Below i.heap.size i o)) ⟨⟨pS61_ HI0.out⟩,⟨pK_ HK.out⟩,⟨pT61_ HB.out⟩⟩ ?_;(try clear HI0);(try clear HK);(try clear HB);rintro o ⟨HI0,HK,HB⟩;have H:=A.out;clear A
   by_cases j:(a.length:Int) > 0
   ·rw [if_pos j] at H
    have v:decide (0 < (a.length:Int))=true:=decide_eq_true j;have K:decide (0 < a.length)=true:=decide_eq_true (by omega);clear j;refine rw_ v ?_
    by_cases k:(a.length:Int)=0
    ·rw [if_pos k] at H
     exact absurd H (by simp)
    ·rw [if_neg k] at H
     have ai:((a.length:Int) == 0)=false:=beq_eq_false_iff_ne.mpr k;have aj:((a.length:Int) != 0)=true:=bne_iff_ne.mpr k
     have ak:¬ (a=[]):=fun h_=>k (by rw [h_];rfl)
     obtain ⟨d,hji13⟩:∃ j_:Int,(Int.tmod b (a.length:Int))=j_:=⟨_,rfl⟩
     replace H:(if 0≤(d) then (if (d) < (a.length:Int) then (if a1=0 then (none) else (some (Int.tmod (wrap64 ((wrap64 (Int.tdiv (Int.tmod (wrap64 ((wrap64 (c * 1103))+12345)) 65521) 7))+(wrap64 (rd a (d))))) a1,wrap64 (b+1),Int.tmod (wrap64 ((wrap64 (c * 1103))+12345)) 65521))) else (none)) else (none))=some (l,m,n):=by first|(rw [hji13] at H;exact H)|(simp only [hji13] at H ⊢;exact H)
     by_cases p:0≤(d)
     ·rw [if_pos p] at H
      have al:decide (0≤(d))=true:=decide_eq_true p;clear p
      by_cases q:(d) < (a.length:Int)
      ·rw [if_pos q] at H
       have am:decide ((d) < (a.length:Int))=true:=decide_eq_true q;clear q
       by_cases r:a1=0
       ·rw [if_pos r] at H
        exact absurd H (by simp)
       ·rw [if_neg r] at H
        have an:(a1 == 0)=false:=beq_eq_false_iff_ne.mpr r;have ao:(a1 != 0)=true:=bne_iff_ne.mpr r;simp only [Option.some.injEq,Prod.mk.injEq] at H;obtain ⟨rfl,rfl,rfl⟩:=H;obtain ⟨ASz17_0,cSz17_0,HGz17,hgz17,HSz17_0⟩:=HI0.out;have ap:=cellS61_0 HGz17;have aq:=cellS61_1 HGz17;have ar:=cellS61_2 HGz17;have au:=qj_ HGz17 1;have av:=qj_ HGz17 2;clear HGz17 hgz17;have x:0≤((d):Int):=od_ Z22;have y:(d) < (a.length:Int):=od_ Z22;obtain ⟨aw,M,B⟩:=Kd.at_int HSz17_0 (d) x y;cases M;replace B:=pw_cell_below HB.out B;replace x:=eq_true x;replace y:=eq_true y
        go_wp2
        repeat (go_quiet (fail);try go_wp2)
        go_ret;exact ⟨by first|rfl|(simp [qag_,qaf_] <;> rfl)|(simp only [← hji13];first|rfl|(simp [qag_,qaf_] <;> rfl))|(simp [*,qag_,qaf_] <;> rfl),pS61_ HI0.out,pT61_ HB.out,pK_ HK.out⟩
      ·rw [if_neg q] at H
       exact absurd H (by simp)
     ·rw [if_neg p] at H
      exact absurd H (by simp)
   ·rw [if_neg j] at H
    have v:decide (0 < (a.length:Int))=false:=decide_eq_false j;have K:decide (0 < a.length)=false:=decide_eq_false (by omega);clear j;refine rw_ v ?_
    by_cases s:a1=0
    ·rw [if_pos s] at H
     exact absurd H (by simp)
    ·rw [if_neg s] at H
     have ax:(a1 == 0)=false:=beq_eq_false_iff_ne.mpr s;have ay:(a1 != 0)=true:=bne_iff_ne.mpr s;simp only [Option.some.injEq,Prod.mk.injEq] at H;obtain ⟨rfl,rfl,rfl⟩:=H;obtain ⟨ASz19_0,cSz19_0,HGz19,hgz19,HSz19_0⟩:=HI0.out;have az:=cellS61_0 HGz19;have aA:=cellS61_1 HGz19;have aB:=cellS61_2 HGz19;have aC:=qj_ HGz19 1;have aD:=qj_ HGz19 2;clear HGz19 hgz19
     go_wp2
     repeat (go_quiet (fail);try go_wp2)
     go_ret;exact ⟨er_,pS61_ HI0.out,pT61_ HB.out,pK_ HK.out⟩
def spec_l01Cur_raw.f (c:List Int) (h i:Int):Option (Int×Int×Int):=(spec_l01Cur_pick.f c h i 8).bind fun a=>(if a.1=0 then ((spec_l01Cur_pick.f c a.2.1 a.2.2 256).bind fun d=>(some (wrap64 (d.1 - 128),d.2.1,d.2.2))) else (if a.1=1 then ((some (([9223372036854775807,(-9223372036854775808),4611686018427387904,65535,65536,(-1000),4294967295,4294967296]:List Int):List Int)).bind fun g=>((spec_l01Cur_pick.f c a.2.1 a.2.2 8).bind fun b=>(if 0≤b.1 then (if b.1 < (g.length:Int) then (some (rd g b.1,b.2.1,b.2.2)) else (none)) else (none)))) else ((spec_l01Cur_pick.f c a.2.1 a.2.2 14).bind fun e=>(some (wrap64 (e.1 - 3),e.2.1,e.2.2)))))
theorem spec_l01Cur_raw.calls (g:Nat) (a:List Int) (q r s t u:Int) (b w:World) (hI:IsS61 b w g a q r) (hB:Below b.heap.size b w) (h:spec_l01Cur_raw.f a q r=some (s,t,u)) :
  Calls Try.prog 16 #[.pointer (some ⟨g,0,none⟩)] w fun e w'=>e=.returned (I L s)∧IsS61 b w' g a t u∧Below b.heap.size b w'∧KeepBut w w' g none:=by
 have HI0:=D hI
 have HK:=D (KeepBut.refl w g none)
 have HL:=D hB.size
 clear hI
 have am:=D hB.size
 have HB:=D hB
 clear hB
 have H:((spec_l01Cur_pick.f a q r 8).bind fun i=>(if i.1=0 then ((spec_l01Cur_pick.f a i.2.1 i.2.2 256).bind fun x=>(some (wrap64 (x.1 - 128),x.2.1,x.2.2))) else (if i.1=1 then ((some (([9223372036854775807,(-9223372036854775808),4611686018427387904,65535,65536,(-1000),4294967295,4294967296]:List Int):List Int)).bind fun j=>((spec_l01Cur_pick.f a i.2.1 i.2.2 8).bind fun c=>(if 0≤c.1 then (if c.1 < (j.length:Int) then (some (rd j c.1,c.2.1,c.2.2)) else (none)) else (none)))) else ((spec_l01Cur_pick.f a i.2.1 i.2.2 14).bind fun y=>(some (wrap64 (y.1 - 3),y.2.1,y.2.2))))))=some (s,t,u):=h
 clear h
 obtain ⟨⟨d,l,m⟩,E,H⟩:=bs_.mp H
 (try dsimp only at H)
 have T:=D E
 clear E
 have G:=D H
 clear H
 go_enter Try.func16,Try.ntmps16
 go_upto_if 5 with (first|((with_reducible refine qd_ (f:=15) rfl ?_);refine qk_ (some 4) rfl rfl Try.func15 (by kernel_rfl) rfl #[.pointer (some ⟨g,0,none⟩),I L 8] rfl Z12 ?_;(with_reducible refine (spec_l01Cur_pick.calls g a q r 8 d l m b _ ?side1 ?side2 T.out).mono ?_);(case side1=>exact pS61_ HI0.out);(case side2=>exact pT61_ HB.out);rintro e w4 ⟨rfl,hi,hb,hk⟩;refine ⟨_,rfl,?_⟩;have n_:=an_ (KeepBut.trans (pK_ HK.out) hk (.inl rfl))<|an_ (hb)<|D (hi);clear HK HB HI0;obtain ⟨HK,HB,HI0⟩:=n_;(try clear hb);(try clear hk);(try clear hi)))
 have H:=G.out
 clear G
 by_cases c5:d=0
 ·rw [if_pos c5] at H
  have z:(d == 0)=true:=beq_iff_eq.mpr c5;have U:(d != 0)=false:=bne_eq_false_iff_eq.mpr c5;clear c5;refine rw_ z ?_;obtain ⟨⟨W,X,Z⟩,J,H⟩:=bs_.mp H;(try dsimp only at H);have A6:=D J;clear J;simp only [Option.some.injEq,Prod.mk.injEq] at H;obtain ⟨rfl,rfl,rfl⟩:=H
  go_wp2_with (first|((with_reducible refine qd_ (f:=15) rfl ?_);refine qk_ (some 8) rfl rfl Try.func15 (by kernel_rfl) rfl #[.pointer (some ⟨g,0,none⟩),I L 256] rfl Z12 ?_;(with_reducible refine (spec_l01Cur_pick.calls g a l m 256 W X Z b _ ?side1 ?side2 A6.out).mono ?_);(case side1=>exact pS61_ HI0.out);(case side2=>exact pT61_ HB.out);rintro e w7 ⟨rfl,hi,hb,hk⟩;refine ⟨_,rfl,?_⟩;have n_:=an_ (KeepBut.trans (pK_ HK.out) hk (.inl rfl))<|an_ (hb)<|D (hi);clear HK HB HI0;obtain ⟨HK,HB,HI0⟩:=n_;(try clear hb);(try clear hk);(try clear hi)))
  go_ret;exact ⟨er_,pS61_ HI0.out,pT61_ HB.out,pK_ HK.out⟩
 ·rw [if_neg c5] at H
  have z:(d == 0)=false:=beq_eq_false_iff_ne.mpr c5;have U:(d != 0)=true:=bne_iff_ne.mpr c5;refine rw_ z ?_
  by_cases c8:d=1
  ·rw [if_pos c8] at H
   have ab:(d == 1)=true:=beq_iff_eq.mpr c8;have ac:(d != 1)=false:=bne_eq_false_iff_eq.mpr c8;clear c8;obtain ⟨j,n⟩:∃ y_:List Int,y_=(([9223372036854775807,(-9223372036854775808),4611686018427387904,65535,65536,(-1000),4294967295,4294967296]:List Int)):=⟨_,rfl⟩
   replace H:((spec_l01Cur_pick.f a l m 8).bind fun c=>(if 0≤c.1 then (if c.1 < (j.length:Int) then (some (rd j c.1,c.2.1,c.2.2)) else (none)) else (none)))=some (s,t,u):=by first|(rw [n];with_reducible exact H)|(have H2_:=(Option.bind_some _ _).symm.trans H;rw [n];with_reducible exact H2_)|(have H2_:=(Option.bind_some _ _).symm.trans H;with_reducible exact H2_)|with_reducible exact H|(rw [n];exact H)|exact H
   have K:=D n;clear n;obtain ⟨⟨k,ad,ae⟩,O,H⟩:=bs_.mp H;(try dsimp only at H);have A9:=D O;clear O
   by_cases c10:0≤k
   ·rw [if_pos c10] at H
    have ap:decide (0≤k)=true:=decide_eq_true c10;clear c10
    by_cases v:k < (j.length:Int)
    ·rw [if_pos v] at H
     have aq:decide (k < (j.length:Int))=true:=decide_eq_true v;clear v;simp only [Option.some.injEq,Prod.mk.injEq] at H;obtain ⟨rfl,rfl,rfl⟩:=H
     go_wp2_with (first|((with_reducible refine qg_ (N:=12) rfl ?_);refine Kd.R_lit (Kd.int .i64) _ 3 ?hg (N:=12) ?hd (xs:=([9223372036854775807,(-9223372036854775808),4611686018427387904,65535,65536,(-1000),4294967295,4294967296]:List Int)) (inner:=[I L 9223372036854775807,I L (-9223372036854775808),I L 4611686018427387904,I L 65535,I L 65536,I L (-1000),I L 4294967295,I L 4294967296]) (ok:=fun _=>True) (okp:=fun _=>True) ?hr ?hp (fun _ hk=>hk) trivial (Below.refl _ _) (Nat.le_refl _) (by simp) ?_;(case hd=>rfl);(case hg=>rfl);(case hr=>first|(go_simp;done)|(go_simp;rfl));(case hp=>exact (Reps.one (show Kd.M (Kd.int .i64) _ _ _ 9223372036854775807 [I L 9223372036854775807] from rfl) (Reps.one (show Kd.M (Kd.int .i64) _ _ _ (-9223372036854775808) [I L (-9223372036854775808)] from rfl) (Reps.one (show Kd.M (Kd.int .i64) _ _ _ 4611686018427387904 [I L 4611686018427387904] from rfl) (Reps.one (show Kd.M (Kd.int .i64) _ _ _ 65535 [I L 65535] from rfl) (Reps.one (show Kd.M (Kd.int .i64) _ _ _ 65536 [I L 65536] from rfl) (Reps.one (show Kd.M (Kd.int .i64) _ _ _ (-1000) [I L (-1000)] from rfl) (Reps.one (show Kd.M (Kd.int .i64) _ _ _ 4294967295 [I L 4294967295] from rfl) (Reps.one (show Kd.M (Kd.int .i64) _ _ _ 4294967296 [I L 4294967296] from rfl) (Reps.none _ _))))))))));intro ar au o hb hg_ hnew_;clear hg_ hnew_;(first|rw [← K.out] at o|(simp only [Int.reduceToNat] at o;rw [← K.out] at o));have n_:=an_ (Kd.R_lower o (qo_ (w:=w) (g:=g) (row:=none) (pK_ HK.out)))<|an_ (IsS61.below (pU61_ HI0.out) hb)<|an_ (KeepBut.trans (pK_ HK.out) (KeepBut.of_below hb g none) (.inl rfl))<|D (qc_ (pT61_ HB.out) hb);clear HI0 HK HB;obtain ⟨p,HI0,HK,HB⟩:=n_;clear hb o)|((with_reducible refine qd_ (f:=15) rfl ?_);refine qk_ (some 14) rfl rfl Try.func15 (by kernel_rfl) rfl #[.pointer (some ⟨g,0,none⟩),I L 8] rfl Z12 ?_;(with_reducible refine (spec_l01Cur_pick.calls g a l m 8 k ad ae b _ ?side1 ?side2 A9.out).mono ?_);(case side1=>exact pS61_ HI0.out);(case side2=>exact pT61_ HB.out);rintro e av ⟨rfl,hi,hb,hk⟩;refine ⟨_,rfl,?_⟩;have n_:=an_ (Kd.R_mono (Kd.R_keep (IsS61.apart (show IsS61 b _ g a l m from pS61_ HI0.out) (pR_ p.out) (by decide)) hk (fun _ h=>h.2)) (fun _ h=>h.1))<|an_ (KeepBut.trans (pK_ HK.out) hk (.inl rfl))<|an_ (hb)<|D (hi);clear p HK HB HI0;obtain ⟨p,HK,HB,HI0⟩:=n_;(try clear hb);(try clear hk);(try clear hi);obtain ⟨Ao15,co15,ag⟩:=Kd.R_slice p.out;subst ag;have A:0≤(k:Int):=od_ Z22;have B:k < (j.length:Int):=od_ Z22;obtain ⟨aw,ah,ax⟩:=Kd.at_int (Kd.R_reads' p.out).2.2 k A B;cases ah;replace A:=eq_true A;replace B:=eq_true B))
     go_ret;exact ⟨er_,pS61_ HI0.out,pT61_ HB.out,pK_ HK.out⟩
    ·rw [if_neg v] at H
     exact absurd H (by simp)
   ·rw [if_neg c10] at H
    exact absurd H (by simp)
  ·rw [if_neg c8] at H
   have ab:(d == 1)=false:=beq_eq_false_iff_ne.mpr c8;have ac:(d != 1)=true:=bne_iff_ne.mpr c8;obtain ⟨⟨ai,aj,ak⟩,P,H⟩:=bs_.mp H;(try dsimp only at H);have al:=D P;clear P;simp only [Option.some.injEq,Prod.mk.injEq] at H;obtain ⟨rfl,rfl,rfl⟩:=H
   go_wp2_with (first|((with_reducible refine qd_ (f:=15) rfl ?_);refine qk_ (some 18) rfl rfl Try.func15 (by kernel_rfl) rfl #[.pointer (some ⟨g,0,none⟩),I L 14] rfl Z12 ?_;(with_reducible refine (spec_l01Cur_pick.calls g a l m 14 ai aj ak b _ ?side1 ?side2 al.out).mono ?_);(case side1=>exact pS61_ HI0.out);(case side2=>exact pT61_ HB.out);rintro e ay ⟨rfl,hi,hb,hk⟩;refine ⟨_,rfl,?_⟩;have n_:=an_ (KeepBut.trans (pK_ HK.out) hk (.inl rfl))<|an_ (hb)<|D (hi);clear HK HB HI0;obtain ⟨HK,HB,HI0⟩:=n_;(try clear hb);(try clear hk);(try clear hi)))
   go_ret;exact ⟨er_,pS61_ HI0.out,pT61_ HB.out,pK_ HK.out⟩
def spec_l03Half.f (a0:Int):Option (Bool):=if a0 ≥ 0 then (some (decide (a0≤4294967295))) else (some false)
theorem spec_l03Half.calls (a0:Int) (r:Bool) (w:World) (h:spec_l03Half.f a0=some r) :
  Calls Try.prog 67 #[I L a0] w fun e w'=>e=.returned (.bool r)∧Drawn0 w w':=by
 have H:(if a0 ≥ 0 then (some (decide (a0≤4294967295))) else (some false))=some r:=h
 clear h
 by_cases c2:a0 ≥ 0
 ·rw [if_pos c2] at H
  have a:decide (0≤a0)=true:=decide_eq_true c2;clear c2;obtain rfl:=Option.some.inj H;go_enter Try.func67,Try.ntmps67
  go_wp2
  go_ret;exact ⟨by first | rfl | (simp;done) | (simp [*];done),by repeat (first | exact Drawn0.refl _ | apply Drawn0.step)⟩
 ·rw [if_neg c2] at H
  have a:decide (0≤a0)=false:=decide_eq_false c2;clear c2;obtain rfl:=Option.some.inj H;go_enter Try.func67,Try.ntmps67
  go_wp2
  go_ret;exact ⟨by first | rfl | (simp;done) | (simp [*];done),by repeat (first | exact Drawn0.refl _ | apply Drawn0.step)⟩
def spec_AddrOk.f (a b c d e:Int):Option (Bool):=if a=4 then (if b=0 then (if c=0 then (if d=0 then ((spec_l03Half.f e).bind fun g=>(some g)) else (some false)) else (some false)) else (some false)) else (if a=6 then ((spec_l03Half.f b).bind fun h=>(if h=true then ((spec_l03Half.f c).bind fun i=>(if i=true then ((spec_l03Half.f d).bind fun j=>(if j=true then ((spec_l03Half.f e).bind fun k=>(some k)) else (some false))) else (some false))) else (some false))) else (some false))
theorem spec_AddrOk.calls (a b c d i:Int) (r:Bool) (w:World) (h:spec_AddrOk.f a b c d i=some r) :
  Calls Try.prog 57 #[.agg #[I L a,I L b,I L c,I L d,I L i]] w fun e w'=>e=.returned (.bool r)∧Below w.heap.size w w':=by
 have hu28:=Try.underlying28
 have HB:=D (Below.refl w.heap.size w)
 have H:(if a=4 then (if b=0 then (if c=0 then (if d=0 then ((spec_l03Half.f i).bind fun o=>(some o)) else (some false)) else (some false)) else (some false)) else (if a=6 then ((spec_l03Half.f b).bind fun p=>(if p=true then ((spec_l03Half.f c).bind fun q=>(if q=true then ((spec_l03Half.f d).bind fun s=>(if s=true then ((spec_l03Half.f i).bind fun u=>(some u)) else (some false))) else (some false))) else (some false))) else (some false)))=some r:=h
 clear h
 have y:=D H
 clear H
 go_enter Try.func57,Try.ntmps57
 go_upto_if 5 with (first|((with_reducible refine qg_ (N:=1) rfl ?_);refine bx_ (N:=1) (cs:=#[I L a,I L b,I L c,I L d,I L i]) (t:=28) ?_;intro z hg w3 hbox hb;have n_:=an_ (qc_ (pB_ HB.out) hb)<|an_ (hbox)<|an_ (bg_ hg (pB_ HB.out):w.heap.size≤z)<|D (bg_ hg (pB_ HB.out):w.heap.size≤z);clear HB;obtain ⟨HB,g,ae,af⟩:=n_;clear hb hbox hg;have ag:=q5_ g.out))
 have H:=y.out
 clear y
 by_cases c5:a=4
 ·rw [if_pos c5] at H
  have v:(a == 4)=true:=beq_iff_eq.mpr c5;have M:(a != 4)=false:=bne_eq_false_iff_eq.mpr c5;clear c5;refine rw_ v ?_
  by_cases c6:b=0
  ·rw [if_pos c6] at H
   have O:(b == 0)=true:=beq_iff_eq.mpr c6;have P:(b != 0)=false:=bne_eq_false_iff_eq.mpr c6;clear c6
   by_cases c7:c=0
   ·rw [if_pos c7] at H
    have T:(c == 0)=true:=beq_iff_eq.mpr c7;have U:(c != 0)=false:=bne_eq_false_iff_eq.mpr c7;clear c7
    by_cases c8:d=0
    ·rw [if_pos c8] at H
     have W:(d == 0)=true:=beq_iff_eq.mpr c8;have X:(d != 0)=false:=bne_eq_false_iff_eq.mpr c8;clear c8;obtain ⟨o,A,H⟩:=bs_.mp H;(try dsimp only at H);have Z:=D A;clear A;obtain rfl:=Option.some.inj H;have ah:=q5_ g.out
     go_wp2_with (first | (go_at_call 67;(with_reducible refine (spec_l03Half.calls i o _ Z.out).mono ?_);rintro e w' ⟨rfl,⟨nd,rfl⟩⟩))
     go_ret;exact ⟨er_,pB_ HB.out⟩
    ·rw [if_neg c8] at H
     have W:(d == 0)=false:=beq_eq_false_iff_ne.mpr c8;have X:(d != 0)=true:=bne_iff_ne.mpr c8;obtain rfl:=Option.some.inj H;have ai:=q5_ g.out
     go_wp2
     go_ret;exact ⟨er_,pB_ HB.out⟩
   ·rw [if_neg c7] at H
    have T:(c == 0)=false:=beq_eq_false_iff_ne.mpr c7;have U:(c != 0)=true:=bne_iff_ne.mpr c7;obtain rfl:=Option.some.inj H;have aj:=q5_ g.out
    go_wp2
    go_ret;exact ⟨er_,pB_ HB.out⟩
  ·rw [if_neg c6] at H
   have O:(b == 0)=false:=beq_eq_false_iff_ne.mpr c6;have P:(b != 0)=true:=bne_iff_ne.mpr c6;obtain rfl:=Option.some.inj H;have ak:=q5_ g.out
   go_wp2
   go_ret;exact ⟨er_,pB_ HB.out⟩
 ·rw [if_neg c5] at H
  have v:(a == 4)=false:=beq_eq_false_iff_ne.mpr c5;have M:(a != 4)=true:=bne_iff_ne.mpr c5;refine rw_ v ?_
  by_cases j:a=6
  ·rw [if_pos j] at H
   have aa:(a == 6)=true:=beq_iff_eq.mpr j;have ab:(a != 6)=false:=bne_eq_false_iff_eq.mpr j;clear j;obtain ⟨p,B,H⟩:=bs_.mp H;(try dsimp only at H);have k:=D B;clear B
   by_cases l:p=true
   ·subst l
    rw [if_pos rfl] at H;obtain ⟨q,E,H⟩:=bs_.mp H;(try dsimp only at H);have x:=D E;clear E
    by_cases m:q=true
    ·subst m
     rw [if_pos rfl] at H;obtain ⟨s,G,H⟩:=bs_.mp H;(try dsimp only at H);have J:=D G;clear G
     by_cases n:s=true
     ·subst n
      rw [if_pos rfl] at H;obtain ⟨u,K,H⟩:=bs_.mp H;(try dsimp only at H);have ac:=D K;clear K;obtain rfl:=Option.some.inj H;have al:=q5_ g.out
      go_wp2_with (first|(go_at_call 67;(with_reducible refine (spec_l03Half.calls b true _ k.out).mono ?_);rintro e w' ⟨rfl,⟨nd,rfl⟩⟩)|(go_at_call 67;(with_reducible refine (spec_l03Half.calls c true _ x.out).mono ?_);rintro e w' ⟨rfl,⟨nd,rfl⟩⟩)|(go_at_call 67;(with_reducible refine (spec_l03Half.calls d true _ J.out).mono ?_);rintro e w' ⟨rfl,⟨nd,rfl⟩⟩)|(go_at_call 67;(with_reducible refine (spec_l03Half.calls i u _ ac.out).mono ?_);rintro e w' ⟨rfl,⟨nd,rfl⟩⟩))
      go_ret;exact ⟨er_,pB_ HB.out⟩
     ·replace n:=Bool.eq_false_iff.mpr n
      subst n;rw [if_neg (show ¬ (false=true) by decide)] at H;obtain rfl:=Option.some.inj H;have am:=q5_ g.out
      go_wp2_with (first|(go_at_call 67;(with_reducible refine (spec_l03Half.calls b true _ k.out).mono ?_);rintro e w' ⟨rfl,⟨nd,rfl⟩⟩)|(go_at_call 67;(with_reducible refine (spec_l03Half.calls c true _ x.out).mono ?_);rintro e w' ⟨rfl,⟨nd,rfl⟩⟩)|(go_at_call 67;(with_reducible refine (spec_l03Half.calls d false _ J.out).mono ?_);rintro e w' ⟨rfl,⟨nd,rfl⟩⟩))
      go_ret;exact ⟨er_,pB_ HB.out⟩
    ·replace m:=Bool.eq_false_iff.mpr m
     subst m;rw [if_neg (show ¬ (false=true) by decide)] at H;obtain rfl:=Option.some.inj H;have an:=q5_ g.out
     go_wp2_with (first|(go_at_call 67;(with_reducible refine (spec_l03Half.calls b true _ k.out).mono ?_);rintro e w' ⟨rfl,⟨nd,rfl⟩⟩)|(go_at_call 67;(with_reducible refine (spec_l03Half.calls c false _ x.out).mono ?_);rintro e w' ⟨rfl,⟨nd,rfl⟩⟩))
     go_ret;exact ⟨er_,pB_ HB.out⟩
   ·replace l:=Bool.eq_false_iff.mpr l
    subst l;rw [if_neg (show ¬ (false=true) by decide)] at H;obtain rfl:=Option.some.inj H;have ao:=q5_ g.out
    go_wp2_with (first | (go_at_call 67;(with_reducible refine (spec_l03Half.calls b false _ k.out).mono ?_);rintro e w' ⟨rfl,⟨nd,rfl⟩⟩))
    go_ret;exact ⟨er_,pB_ HB.out⟩
  ·rw [if_neg j] at H
   have aa:(a == 6)=false:=beq_eq_false_iff_ne.mpr j;have ab:(a != 6)=true:=bne_iff_ne.mpr j;obtain rfl:=Option.some.inj H;have ap:=q5_ g.out
   go_wp2
   go_ret;exact ⟨er_,pB_ HB.out⟩
def spec_l07Pair.f (a c d e g b h i j k:Int):Option (Bool):=(spec_AddrOk.f a c d e g).bind fun l=>(if l=true then ((spec_AddrOk.f b h i j k).bind fun m=>(if m=true then (some (a == b)) else (some false))) else (some false))
theorem spec_l07Pair.calls (g i j k l m n o p q:Int) (r:Bool) (w:World) (h:spec_l07Pair.f g i j k l m n o p q=some r) :
  Calls Try.prog 46 #[.agg #[I L g,I L i,I L j,I L k,I L l],.agg #[I L m,I L n,I L o,I L p,I L q]] w fun e w'=>e=.returned (.bool r)∧Below w.heap.size w w':=by
 have hu28:=Try.underlying28
 have HB:=D (Below.refl w.heap.size w)
 have H:((spec_AddrOk.f g i j k l).bind fun v=>(if v=true then ((spec_AddrOk.f m n o p q).bind fun x=>(if x=true then (some (g == m)) else (some false))) else (some false)))=some r:=h
 clear h
 obtain ⟨v,z,H⟩:=bs_.mp H
 (try dsimp only at H)
 have y:=D z
 clear z
 by_cases c4:v=true
 ·subst c4
  rw [if_pos rfl] at H;obtain ⟨x,A,H⟩:=bs_.mp H;(try dsimp only at H);have B:=D A;clear A
  by_cases c6:x=true
  ·subst c6
   rw [if_pos rfl] at H;obtain rfl:=Option.some.inj H;go_enter Try.func46,Try.ntmps46
   go_wp2_with (first|((with_reducible refine qg_ (N:=2) rfl ?_);refine bx_ (N:=2) (cs:=#[I L g,I L i,I L j,I L k,I L l]) (t:=28) ?_;intro c hg M hbox hb;have n_:=an_ (qc_ (pB_ HB.out) hb)<|an_ (hbox)<|an_ (bg_ hg (pB_ HB.out):w.heap.size≤c)<|D (bg_ hg (pB_ HB.out):w.heap.size≤c);clear HB;obtain ⟨HB,a,E,G⟩:=n_;clear hb hbox hg)|((with_reducible refine qg_ (N:=3) rfl ?_);refine bx_ (N:=3) (cs:=#[I L m,I L n,I L o,I L p,I L q]) (t:=28) ?_;intro d hg O hbox hb;have n_:=an_ (qb_ (pk_ a.out) hb)<|an_ (qc_ (pB_ HB.out) hb)<|an_ (hbox)<|an_ (bg_ hg (pB_ HB.out):w.heap.size≤d)<|an_ (bg_ hg (pB_ HB.out):w.heap.size≤d)<|an_ (nl_ hg (pk_ a.out):c≠d)<|D (by rw [hg];exact Nat.ne_of_gt (qz_ (pk_ a.out)):d≠c);clear a HB;obtain ⟨a,HB,b,J,K,s,u⟩:=n_;clear hb hbox hg;(try have:=s.out);(try have:=u.out);have P:=q5_ a.out)|((with_reducible refine qd_ (f:=57) rfl ?_);refine qk_ (some 6) rfl rfl Try.func57 (by kernel_rfl) rfl #[.agg #[I L g,I L i,I L j,I L k,I L l]] rfl Z12 ?_;(with_reducible refine (spec_AddrOk.calls g i j k l true _ y.out).mono ?_);rintro e T ⟨rfl,hb⟩;refine ⟨_,rfl,?_⟩;have n_:=an_ (qb_ (pk_ a.out) hb)<|an_ (qb_ (pk_ b.out) hb)<|D (qc_ (pB_ HB.out) hb);clear a b HB;obtain ⟨a,b,HB⟩:=n_;(try clear hb);have U:=q5_ b.out)|(go_at_call 57;(with_reducible refine (spec_AddrOk.calls m n o p q true _ B.out).mono ?_);rintro e W ⟨rfl,hb⟩;have n_:=an_ (qb_ (pk_ a.out) hb)<|an_ (qb_ (pk_ b.out) hb)<|D (qc_ (pB_ HB.out) hb);clear a b HB;obtain ⟨a,b,HB⟩:=n_;(try clear hb);have X:=q5_ a.out;have Z:=q5_ b.out))
   go_ret;exact ⟨er_,pB_ HB.out⟩
  ·replace c6:=Bool.eq_false_iff.mpr c6
   subst c6;rw [if_neg (show ¬ (false=true) by decide)] at H;obtain rfl:=Option.some.inj H;go_enter Try.func46,Try.ntmps46
   go_wp2_with (first|((with_reducible refine qg_ (N:=2) rfl ?_);refine bx_ (N:=2) (cs:=#[I L g,I L i,I L j,I L k,I L l]) (t:=28) ?_;intro c hg aa hbox hb;have n_:=an_ (qc_ (pB_ HB.out) hb)<|an_ (hbox)<|an_ (bg_ hg (pB_ HB.out):w.heap.size≤c)<|D (bg_ hg (pB_ HB.out):w.heap.size≤c);clear HB;obtain ⟨HB,a,E,G⟩:=n_;clear hb hbox hg)|((with_reducible refine qg_ (N:=3) rfl ?_);refine bx_ (N:=3) (cs:=#[I L m,I L n,I L o,I L p,I L q]) (t:=28) ?_;intro d hg ab hbox hb;have n_:=an_ (qb_ (pk_ a.out) hb)<|an_ (qc_ (pB_ HB.out) hb)<|an_ (hbox)<|an_ (bg_ hg (pB_ HB.out):w.heap.size≤d)<|an_ (bg_ hg (pB_ HB.out):w.heap.size≤d)<|an_ (nl_ hg (pk_ a.out):c≠d)<|D (by rw [hg];exact Nat.ne_of_gt (qz_ (pk_ a.out)):d≠c);clear a HB;obtain ⟨a,HB,b,J,K,s,u⟩:=n_;clear hb hbox hg;(try have:=s.out);(try have:=u.out);have ac:=q5_ a.out)|((with_reducible refine qd_ (f:=57) rfl ?_);refine qk_ (some 6) rfl rfl Try.func57 (by kernel_rfl) rfl #[.agg #[I L g,I L i,I L j,I L k,I L l]] rfl Z12 ?_;(with_reducible refine (spec_AddrOk.calls g i j k l true _ y.out).mono ?_);rintro e ad ⟨rfl,hb⟩;refine ⟨_,rfl,?_⟩;have n_:=an_ (qb_ (pk_ a.out) hb)<|an_ (qb_ (pk_ b.out) hb)<|D (qc_ (pB_ HB.out) hb);clear a b HB;obtain ⟨a,b,HB⟩:=n_;(try clear hb);have ae:=q5_ b.out)|(go_at_call 57;(with_reducible refine (spec_AddrOk.calls m n o p q false _ B.out).mono ?_);rintro e af ⟨rfl,hb⟩;have n_:=an_ (qb_ (pk_ a.out) hb)<|an_ (qb_ (pk_ b.out) hb)<|D (qc_ (pB_ HB.out) hb);clear a b HB;obtain ⟨a,b,HB⟩:=n_;(try clear hb)))
   go_ret;exact ⟨er_,pB_ HB.out⟩
 ·replace c4:=Bool.eq_false_iff.mpr c4
  subst c4;rw [if_neg (show ¬ (false=true) by decide)] at H;obtain rfl:=Option.some.inj H;go_enter Try.func46,Try.ntmps46
  go_wp2_with (first|((with_reducible refine qg_ (N:=2) rfl ?_);refine bx_ (N:=2) (cs:=#[I L g,I L i,I L j,I L k,I L l]) (t:=28) ?_;intro c hg ag hbox hb;have n_:=an_ (qc_ (pB_ HB.out) hb)<|an_ (hbox)<|an_ (bg_ hg (pB_ HB.out):w.heap.size≤c)<|D (bg_ hg (pB_ HB.out):w.heap.size≤c);clear HB;obtain ⟨HB,a,E,G⟩:=n_;clear hb hbox hg)|((with_reducible refine qg_ (N:=3) rfl ?_);refine bx_ (N:=3) (cs:=#[I L m,I L n,I L o,I L p,I L q]) (t:=28) ?_;intro d hg ah hbox hb;have n_:=an_ (qb_ (pk_ a.out) hb)<|an_ (qc_ (pB_ HB.out) hb)<|an_ (hbox)<|an_ (bg_ hg (pB_ HB.out):w.heap.size≤d)<|an_ (bg_ hg (pB_ HB.out):w.heap.size≤d)<|an_ (nl_ hg (pk_ a.out):c≠d)<|D (by rw [hg];exact Nat.ne_of_gt (qz_ (pk_ a.out)):d≠c);clear a HB;obtain ⟨a,HB,b,J,K,s,u⟩:=n_;clear hb hbox hg;(try have:=s.out);(try have:=u.out);have ai:=q5_ a.out)|((with_reducible refine qd_ (f:=57) rfl ?_);refine qk_ (some 6) rfl rfl Try.func57 (by kernel_rfl) rfl #[.agg #[I L g,I L i,I L j,I L k,I L l]] rfl Z12 ?_;(with_reducible refine (spec_AddrOk.calls g i j k l false _ y.out).mono ?_);rintro e aj ⟨rfl,hb⟩;refine ⟨_,rfl,?_⟩;have n_:=an_ (qb_ (pk_ a.out) hb)<|an_ (qb_ (pk_ b.out) hb)<|D (qc_ (pB_ HB.out) hb);clear a b HB;obtain ⟨a,b,HB⟩:=n_;(try clear hb)))
  go_ret;exact ⟨er_,pB_ HB.out⟩
def spec_l05In.f (a0 a1:Int):Option (Bool):=if a0 ≥ 0 then (some (decide (a0≤a1))) else (some false)
theorem spec_l05In.calls (a0 a1:Int) (r:Bool) (w:World) (h:spec_l05In.f a0 a1=some r) :
  Calls Try.prog 47 #[I L a0,I L a1] w fun e w'=>e=.returned (.bool r)∧Drawn0 w w':=by
 have H:(if a0 ≥ 0 then (some (decide (a0≤a1))) else (some false))=some r:=h
 clear h
 by_cases c3:a0 ≥ 0
 ·rw [if_pos c3] at H
  have a:decide (0≤a0)=true:=decide_eq_true c3;clear c3;obtain rfl:=Option.some.inj H;go_enter Try.func47,Try.ntmps47
  go_wp2
  go_ret;exact ⟨by first | rfl | (simp;done) | (simp [*];done),by repeat (first | exact Drawn0.refl _ | apply Drawn0.step)⟩
 ·rw [if_neg c3] at H
  have a:decide (0≤a0)=false:=decide_eq_false c3;clear c3;obtain rfl:=Option.some.inj H;go_enter Try.func47,Try.ntmps47
  go_wp2
  go_ret;exact ⟨by first | rfl | (simp;done) | (simp [*];done),by repeat (first | exact Drawn0.refl _ | apply Drawn0.step)⟩
def spec_KeyOk.f (a b c d e g h i j k l m n:Int):Option (Bool):=(spec_l07Pair.f a b c d e g h i j k).bind fun o=>(if o=true then ((spec_l05In.f l 255).bind fun p=>(if p=true then ((spec_l05In.f m 65535).bind fun q=>(if q=true then ((spec_l05In.f n 65535).bind fun r=>(some r)) else (some false))) else (some false))) else (some false))
theorem spec_KeyOk.calls (a b c d g i j k l m n o p:Int) (r:Bool) (w:World) (h:spec_KeyOk.f a b c d g i j k l m n o p=some r) :
  Calls Try.prog 34 #[.agg #[I L a,I L b,I L c,I L d,I L g,I L i,I L j,I L k,I L l,I L m,I L n,I L o,I L p]] w fun e w'=>e=.returned (.bool r)∧Below w.heap.size w w':=by
 have hu30:=Try.underlying30
 have hu28:=Try.underlying28
 have HB:=D (Below.refl w.heap.size w)
 have H:((spec_l07Pair.f a b c d g i j k l m).bind fun Ma=>(if Ma=true then ((spec_l05In.f n 255).bind fun Oa=>(if Oa=true then ((spec_l05In.f o 65535).bind fun Ua=>(if Ua=true then ((spec_l05In.f p 65535).bind fun Xa=>(some Xa)) else (some false))) else (some false))) else (some false)))=some r:=h
 clear h
 obtain ⟨Ma,u,H⟩:=bs_.mp H
 (try dsimp only at H)
 have q:=D u
 clear u
 by_cases c3:Ma=true
 ·subst c3
  rw [if_pos rfl] at H;obtain ⟨Oa,v,H⟩:=bs_.mp H;(try dsimp only at H);have s:=D v;clear v
  by_cases c5:Oa=true
  ·subst c5
   rw [if_pos rfl] at H;obtain ⟨Ua,x,H⟩:=bs_.mp H;(try dsimp only at H);have y:=D x;clear x
   by_cases c7:Ua=true
   ·subst c7
    rw [if_pos rfl] at H;obtain ⟨Xa,z,H⟩:=bs_.mp H;(try dsimp only at H);have A:=D z;clear z;obtain rfl:=Option.some.inj H;go_enter Try.func34,Try.ntmps34
    go_wp2_with (first|((with_reducible refine gld_ 28 rfl ?_);(first|refine la28o0_ ?_|refine la28o5_ ?_))|((with_reducible refine gld_ 3 rfl ?_);refine lc3_ ?_)|((with_reducible refine gst_ 30 rfl ?_);refine sa30_ ?_)|((with_reducible refine gld_ 30 rfl ?_);refine la30_ ?_)|((with_reducible refine qg_ (N:=1) rfl ?_);refine bx_ (N:=1) (cs:=#[I L a,I L b,I L c,I L d,I L g,I L i,I L j,I L k,I L l,I L m,I L n,I L o,I L p]) (t:=30) ?_;intro Ka hg B hbox hb;have n_:=an_ (qc_ (pB_ HB.out) hb)<|an_ (hbox)<|an_ (bg_ hg (pB_ HB.out):w.heap.size≤Ka)<|D (bg_ hg (pB_ HB.out):w.heap.size≤Ka);clear HB;obtain ⟨HB,Ja,Jb,Kb⟩:=n_;clear hb hbox hg;obtain ⟨Ob,Ub,Xb,Jc,Kc,Mc,Oc,Uc,Xc,Jd,Kd,Md,Od,Ud,Xd,Je,Ke,Me,Oe,Ue,Xe,Jf,Kf,Mf,Of,Uf⟩:=cells13 Ja.out)|((with_reducible refine qd_ (f:=46) rfl ?_);refine qk_ (some 7) rfl rfl Try.func46 (by kernel_rfl) rfl #[.agg #[I L a,I L b,I L c,I L d,I L g],.agg #[I L i,I L j,I L k,I L l,I L m]] rfl Z12 ?_;(with_reducible refine (spec_l07Pair.calls a b c d g i j k l m true _ q.out).mono ?_);rintro e E ⟨rfl,hb⟩;refine ⟨_,rfl,?_⟩;have n_:=an_ (qb_ (pk_ Ja.out) hb)<|D (qc_ (pB_ HB.out) hb);clear Ja HB;obtain ⟨Ja,HB⟩:=n_;(try clear hb);obtain ⟨Xf,Jg,Kg,Mg,Og,Ug,Xg,Jh,Kh,Mh,Oh,Uh,Xh,Ji,Ki,Mi,Oi,Ui,Xi,Jj,Kj,Mj,Oj,Uj,Xj,Jk⟩:=cells13 Ja.out)|(go_at_call 47;(with_reducible refine (spec_l05In.calls n 255 true _ s.out).mono ?_);rintro e w' ⟨rfl,⟨nd,rfl⟩⟩)|(go_at_call 47;(with_reducible refine (spec_l05In.calls o 65535 true _ y.out).mono ?_);rintro e w' ⟨rfl,⟨nd,rfl⟩⟩)|(go_at_call 47;(with_reducible refine (spec_l05In.calls p 65535 Xa _ A.out).mono ?_);rintro e w' ⟨rfl,⟨nd,rfl⟩⟩))
    go_ret;exact ⟨er_,pB_ HB.out⟩
   ·replace c7:=Bool.eq_false_iff.mpr c7
    subst c7;rw [if_neg (show ¬ (false=true) by decide)] at H;obtain rfl:=Option.some.inj H;go_enter Try.func34,Try.ntmps34
    go_wp2_with (first|((with_reducible refine gld_ 28 rfl ?_);(first|refine la28o0_ ?_|refine la28o5_ ?_))|((with_reducible refine gld_ 3 rfl ?_);refine lc3_ ?_)|((with_reducible refine gst_ 30 rfl ?_);refine sa30_ ?_)|((with_reducible refine gld_ 30 rfl ?_);refine la30_ ?_)|((with_reducible refine qg_ (N:=1) rfl ?_);refine bx_ (N:=1) (cs:=#[I L a,I L b,I L c,I L d,I L g,I L i,I L j,I L k,I L l,I L m,I L n,I L o,I L p]) (t:=30) ?_;intro Ka hg G hbox hb;have n_:=an_ (qc_ (pB_ HB.out) hb)<|an_ (hbox)<|an_ (bg_ hg (pB_ HB.out):w.heap.size≤Ka)<|D (bg_ hg (pB_ HB.out):w.heap.size≤Ka);clear HB;obtain ⟨HB,Ja,Jb,Kb⟩:=n_;clear hb hbox hg;obtain ⟨Kk,Mk,Ok,Uk,Xk,Jm,Km,Mm,Om,Um,Xm,Jn,Kn,Mn,On,Un,Xn,Jo,Ko,Mo,Oo,Uo,Xo,Jp,Kp,Mp⟩:=cells13 Ja.out)|((with_reducible refine qd_ (f:=46) rfl ?_);refine qk_ (some 7) rfl rfl Try.func46 (by kernel_rfl) rfl #[.agg #[I L a,I L b,I L c,I L d,I L g],.agg #[I L i,I L j,I L k,I L l,I L m]] rfl Z12 ?_;(with_reducible refine (spec_l07Pair.calls a b c d g i j k l m true _ q.out).mono ?_);rintro e J ⟨rfl,hb⟩;refine ⟨_,rfl,?_⟩;have n_:=an_ (qb_ (pk_ Ja.out) hb)<|D (qc_ (pB_ HB.out) hb);clear Ja HB;obtain ⟨Ja,HB⟩:=n_;(try clear hb);obtain ⟨Op,Up,Xp,Jq,Kq,Mq,Oq,Uq,Xq,Jr,Kr,Mr,Or,Ur,Xr,Js,Ks,Ms,Os,Us,Xs,Ju,Ku,Mu,Ou,Uu⟩:=cells13 Ja.out)|(go_at_call 47;(with_reducible refine (spec_l05In.calls n 255 true _ s.out).mono ?_);rintro e w' ⟨rfl,⟨nd,rfl⟩⟩)|(go_at_call 47;(with_reducible refine (spec_l05In.calls o 65535 false _ y.out).mono ?_);rintro e w' ⟨rfl,⟨nd,rfl⟩⟩))
    go_ret;exact ⟨er_,pB_ HB.out⟩
  ·replace c5:=Bool.eq_false_iff.mpr c5
   subst c5;rw [if_neg (show ¬ (false=true) by decide)] at H;obtain rfl:=Option.some.inj H;go_enter Try.func34,Try.ntmps34
   go_wp2_with (first|((with_reducible refine gld_ 28 rfl ?_);(first|refine la28o0_ ?_|refine la28o5_ ?_))|((with_reducible refine gld_ 3 rfl ?_);refine lc3_ ?_)|((with_reducible refine gst_ 30 rfl ?_);refine sa30_ ?_)|((with_reducible refine gld_ 30 rfl ?_);refine la30_ ?_)|((with_reducible refine qg_ (N:=1) rfl ?_);refine bx_ (N:=1) (cs:=#[I L a,I L b,I L c,I L d,I L g,I L i,I L j,I L k,I L l,I L m,I L n,I L o,I L p]) (t:=30) ?_;intro Ka hg K hbox hb;have n_:=an_ (qc_ (pB_ HB.out) hb)<|an_ (hbox)<|an_ (bg_ hg (pB_ HB.out):w.heap.size≤Ka)<|D (bg_ hg (pB_ HB.out):w.heap.size≤Ka);clear HB;obtain ⟨HB,Ja,Jb,Kb⟩:=n_;clear hb hbox hg;obtain ⟨Xu,Jv,Kv,Mv,Ov,Uv,Xv,Jx,Kx,Mx,Ox,Ux,Xx,Jy,Ky,My,Oy,Uy,Xy,Jz,Kz,Mz,Oz,Uz,Xz,Ja1⟩:=cells13 Ja.out)|((with_reducible refine qd_ (f:=46) rfl ?_);refine qk_ (some 7) rfl rfl Try.func46 (by kernel_rfl) rfl #[.agg #[I L a,I L b,I L c,I L d,I L g],.agg #[I L i,I L j,I L k,I L l,I L m]] rfl Z12 ?_;(with_reducible refine (spec_l07Pair.calls a b c d g i j k l m true _ q.out).mono ?_);rintro e M ⟨rfl,hb⟩;refine ⟨_,rfl,?_⟩;have n_:=an_ (qb_ (pk_ Ja.out) hb)<|D (qc_ (pB_ HB.out) hb);clear Ja HB;obtain ⟨Ja,HB⟩:=n_;(try clear hb);obtain ⟨Ka1,Ma1,Oa1,Ua1,Xa1,Jb1,Kb1,Mb1,Ob1,Ub1,Xb1,Jc1,Kc1,Mc1,Oc1,Uc1,Xc1,Jd1,Kd1,Md1,Od1,Ud1,Xd1,Je1,Ke1,Me1⟩:=cells13 Ja.out)|(go_at_call 47;(with_reducible refine (spec_l05In.calls n 255 false _ s.out).mono ?_);rintro e w' ⟨rfl,⟨nd,rfl⟩⟩))
   go_ret;exact ⟨er_,pB_ HB.out⟩
 ·replace c3:=Bool.eq_false_iff.mpr c3
  subst c3;rw [if_neg (show ¬ (false=true) by decide)] at H;obtain rfl:=Option.some.inj H;go_enter Try.func34,Try.ntmps34
  go_wp2_with (first|((with_reducible refine gld_ 28 rfl ?_);(first|refine la28o0_ ?_|refine la28o5_ ?_))|((with_reducible refine gld_ 3 rfl ?_);refine lc3_ ?_)|((with_reducible refine gst_ 30 rfl ?_);refine sa30_ ?_)|((with_reducible refine gld_ 30 rfl ?_);refine la30_ ?_)|((with_reducible refine qg_ (N:=1) rfl ?_);refine bx_ (N:=1) (cs:=#[I L a,I L b,I L c,I L d,I L g,I L i,I L j,I L k,I L l,I L m,I L n,I L o,I L p]) (t:=30) ?_;intro Ka hg O hbox hb;have n_:=an_ (qc_ (pB_ HB.out) hb)<|an_ (hbox)<|an_ (bg_ hg (pB_ HB.out):w.heap.size≤Ka)<|D (bg_ hg (pB_ HB.out):w.heap.size≤Ka);clear HB;obtain ⟨HB,Ja,Jb,Kb⟩:=n_;clear hb hbox hg;obtain ⟨Oe1,Ue1,Xe1,Jf1,Kf1,Mf1,Of1,Uf1,Xf1,Jg1,Kg1,Mg1,Og1,Ug1,Xg1,Jh1,Kh1,Mh1,Oh1,Uh1,Xh1,Ji1,Ki1,Mi1,Oi1,Ui1⟩:=cells13 Ja.out)|((with_reducible refine qd_ (f:=46) rfl ?_);refine qk_ (some 7) rfl rfl Try.func46 (by kernel_rfl) rfl #[.agg #[I L a,I L b,I L c,I L d,I L g],.agg #[I L i,I L j,I L k,I L l,I L m]] rfl Z12 ?_;(with_reducible refine (spec_l07Pair.calls a b c d g i j k l m false _ q.out).mono ?_);rintro e P ⟨rfl,hb⟩;refine ⟨_,rfl,?_⟩;have n_:=an_ (qb_ (pk_ Ja.out) hb)<|D (qc_ (pB_ HB.out) hb);clear Ja HB;obtain ⟨Ja,HB⟩:=n_;(try clear hb)))
  go_ret;exact ⟨er_,pB_ HB.out⟩
def spec_FlowKeyOk.f (a b c d e g h i j k l m n o:Int):Option (Bool):=if a ≥ 1 then (if a≤8 then ((spec_KeyOk.f b c d e g h i j k l m n o).bind fun Mb=>(some Mb)) else (some false)) else (some false)
theorem spec_FlowKeyOk.calls (a d g i j k l m n o p q s u:Int) (r:Bool) (w:World) (h:spec_FlowKeyOk.f a d g i j k l m n o p q s u=some r) :
  Calls Try.prog 18 #[.agg #[I L a,I L d,I L g,I L i,I L j,I L k,I L l,I L m,I L n,I L o,I L p,I L q,I L s,I L u]] w fun e w'=>e=.returned (.bool r)∧Below w.heap.size w w':=by
 have hu32:=Try.underlying32
 have hu30:=Try.underlying30
 have HB:=D (Below.refl w.heap.size w)
 have H:(if a ≥ 1 then (if a≤8 then ((spec_KeyOk.f d g i j k l m n o p q s u).bind fun v=>(some v)) else (some false)) else (some false))=some r:=h
 clear h
 by_cases c2:a ≥ 1
 ·rw [if_pos c2] at H
  have A:decide (1≤a)=true:=decide_eq_true c2;clear c2
  by_cases c3:a≤8
  ·rw [if_pos c3] at H
   have B:decide (a≤8)=true:=decide_eq_true c3;clear c3;obtain ⟨v,x,H⟩:=bs_.mp H;(try dsimp only at H);have E:=D x;clear x;obtain rfl:=Option.some.inj H;go_enter Try.func18,Try.ntmps18
   go_wp2_with (first|((with_reducible refine gld_ 30 rfl ?_);refine la30o1_ ?_)|((with_reducible refine gld_ 3 rfl ?_);refine lc3_ ?_)|((with_reducible refine gst_ 32 rfl ?_);refine sa32_ ?_)|((with_reducible refine gld_ 32 rfl ?_);refine la32_ ?_)|((with_reducible refine qg_ (N:=1) rfl ?_);refine bx_ (N:=1) (cs:=#[I L a,I L d,I L g,I L i,I L j,I L k,I L l,I L m,I L n,I L o,I L p,I L q,I L s,I L u]) (t:=32) ?_;intro b hg G hbox hb;have n_:=an_ (qc_ (pB_ HB.out) hb)<|an_ (hbox)<|an_ (bg_ hg (pB_ HB.out):w.heap.size≤b)<|D (bg_ hg (pB_ HB.out):w.heap.size≤b);clear HB;obtain ⟨HB,c,y,z⟩:=n_;clear hb hbox hg;obtain ⟨J,K,M,O,P,T,U,W,X,Z,aa,ab,ac,ad,ae,af,ag,ah,ai,aj,ak,al,am,an,ao,ap,aq,ar⟩:=cells14 c.out)|(go_at_call 34;(with_reducible refine (spec_KeyOk.calls d g i j k l m n o p q s u v _ E.out).mono ?_);rintro e w7 ⟨rfl,hb⟩;have n_:=an_ (qb_ (pk_ c.out) hb)<|D (qc_ (pB_ HB.out) hb);clear c HB;obtain ⟨c,HB⟩:=n_;(try clear hb)))
   go_ret;exact ⟨er_,pB_ HB.out⟩
  ·rw [if_neg c3] at H
   have B:decide (a≤8)=false:=decide_eq_false c3;clear c3;obtain rfl:=Option.some.inj H;go_enter Try.func18,Try.ntmps18
   go_wp2_with (first|((with_reducible refine gld_ 30 rfl ?_);refine la30o1_ ?_)|((with_reducible refine gld_ 3 rfl ?_);refine lc3_ ?_)|((with_reducible refine gst_ 32 rfl ?_);refine sa32_ ?_)|((with_reducible refine gld_ 32 rfl ?_);refine la32_ ?_)|((with_reducible refine qg_ (N:=1) rfl ?_);refine bx_ (N:=1) (cs:=#[I L a,I L d,I L g,I L i,I L j,I L k,I L l,I L m,I L n,I L o,I L p,I L q,I L s,I L u]) (t:=32) ?_;intro b hg w8 hbox hb;have n_:=an_ (qc_ (pB_ HB.out) hb)<|an_ (hbox)<|an_ (bg_ hg (pB_ HB.out):w.heap.size≤b)<|D (bg_ hg (pB_ HB.out):w.heap.size≤b);clear HB;obtain ⟨HB,c,y,z⟩:=n_;clear hb hbox hg;obtain ⟨aw,ax,ay,az,aA,aB,aC,aD,aE,aF,aG,aH,aI,aJ,aK,aL,aM,aN,aO,aP,aQ,aR,aS,aT,aU,aV,aW,aX⟩:=cells14 c.out))
   go_ret;exact ⟨er_,pB_ HB.out⟩
 ·rw [if_neg c2] at H
  have A:decide (1≤a)=false:=decide_eq_false c2;clear c2;obtain rfl:=Option.some.inj H;go_enter Try.func18,Try.ntmps18
  go_wp2_with (first|((with_reducible refine gld_ 30 rfl ?_);refine la30o1_ ?_)|((with_reducible refine gld_ 3 rfl ?_);refine lc3_ ?_)|((with_reducible refine gst_ 32 rfl ?_);refine sa32_ ?_)|((with_reducible refine gld_ 32 rfl ?_);refine la32_ ?_)|((with_reducible refine qg_ (N:=1) rfl ?_);refine bx_ (N:=1) (cs:=#[I L a,I L d,I L g,I L i,I L j,I L k,I L l,I L m,I L n,I L o,I L p,I L q,I L s,I L u]) (t:=32) ?_;intro b hg aY hbox hb;have n_:=an_ (qc_ (pB_ HB.out) hb)<|an_ (hbox)<|an_ (bg_ hg (pB_ HB.out):w.heap.size≤b)<|D (bg_ hg (pB_ HB.out):w.heap.size≤b);clear HB;obtain ⟨HB,c,y,z⟩:=n_;clear hb hbox hg;obtain ⟨aZ,a0,a1,a2,a3,a4,a5,a6,a7,a8,a9,ba,bb,bc,bd,be,bf,bg,bh,bi,bj,bk,bl,bm,bn,bo,bp,bq⟩:=cells14 c.out))
  go_ret;exact ⟨er_,pB_ HB.out⟩
end Go.Proofs.Yteahaehbciccmaa.PFnPutDrop
