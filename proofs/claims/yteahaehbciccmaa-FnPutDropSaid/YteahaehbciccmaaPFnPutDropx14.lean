-- by a program of this session's, over the kit's words
import Derived.Test.YteahaehbciccmaaPZFnPutDrop
import Derived.Test.YteahaehbciccmaaPFnPutDropx0
import Derived.Test.YteahaehbciccmaaPFnPutDropx3
import Derived.Test.YteahaehbciccmaaPFnPutDropx11
import Derived.Test.YteahaehbciccmaaPFnPutDropx12
namespace Go.Proofs.Yteahaehbciccmaa.PFnPutDrop
open Go.RowKit Go.Proofs.YteahaehbciccmaaW.PrintWords Go.Proofs.YteahaehbciccmaaW.PrintLast Go.Proofs.YteahaehbciccmaaW.PrintMore Go.Proofs.YteahaehbciccmaaV Go.Proofs.Yteahaehbciccmaa.ZFnPutDrop
open Go.Value renaming int → I, slice → Y
open Go.IntKind renaming i64 → L
open Aside0 renaming mk → D
open Option renaming bind_eq_some_iff → bs_
attribute [local go_sem] qad_ qab_ qak_ qaj_ q4_ q3_ qac_ qaa_
set_option linter.unusedVariables false
set_option linter.unusedSimpArgs false
set_option maxHeartbeats 8000000
set_option maxRecDepth 100000
mutual
def spec_l01Cur_keyIn.j0:Nat→Bool→List Int→Int→Int→Int→List (S52)→Option (Int×Int×Int×Int×Int×Int×Int×Int×Int×Int×Int×Int×Int×Int×Int×Int)
 | 0,_,_,_,_,_,_=>none
 | k+1,x14,d,e,g,h,a=>if x14=true then ((spec_l01Cur_pick.f d e g (a.length:Int)).bind fun i=>(spec_l01Cur_keyIn.l0 k i.1 d i.2.1 i.2.2 h a)) else ((spec_l01Cur_badFlowKey.f k d e g).bind fun b=>(some (b.1,b.2.1,b.2.2.1,b.2.2.2.1,b.2.2.2.2.1,b.2.2.2.2.2.1,b.2.2.2.2.2.2.1,b.2.2.2.2.2.2.2.1,b.2.2.2.2.2.2.2.2.1,b.2.2.2.2.2.2.2.2.2.1,b.2.2.2.2.2.2.2.2.2.2.1,b.2.2.2.2.2.2.2.2.2.2.2.1,b.2.2.2.2.2.2.2.2.2.2.2.2.1,b.2.2.2.2.2.2.2.2.2.2.2.2.2.1,b.2.2.2.2.2.2.2.2.2.2.2.2.2.2.1,b.2.2.2.2.2.2.2.2.2.2.2.2.2.2.2)))
def spec_l01Cur_keyIn.l0:Nat→Int→List Int→Int→Int→Int→List (S52)→Option (Int×Int×Int×Int×Int×Int×Int×Int×Int×Int×Int×Int×Int×Int×Int×Int)
 | 0,_,_,_,_,_,_=>none
 | k+1,x5,d,e,g,h,a=>if x5 < (a.length:Int) then (if 0≤x5 then (if (qa_ a x5).f0=true then (some ((qa_ a x5).f1.f0,(qa_ a x5).f1.f1.f0.f0,(qa_ a x5).f1.f1.f0.f1,(qa_ a x5).f1.f1.f0.f2,(qa_ a x5).f1.f1.f0.f3,(qa_ a x5).f1.f1.f0.f4,(qa_ a x5).f1.f1.f1.f0,(qa_ a x5).f1.f1.f1.f1,(qa_ a x5).f1.f1.f1.f2,(qa_ a x5).f1.f1.f1.f3,(qa_ a x5).f1.f1.f1.f4,(qa_ a x5).f1.f1.f2,(qa_ a x5).f1.f1.f3,(qa_ a x5).f1.f1.f4,e,g)) else (spec_l01Cur_keyIn.l0 k (wrap64 (x5+1)) d e g h a)) else (none)) else ((spec_l01Cur_badFlowKey.f k d e g).bind fun c=>(some (c.1,c.2.1,c.2.2.1,c.2.2.2.1,c.2.2.2.2.1,c.2.2.2.2.2.1,c.2.2.2.2.2.2.1,c.2.2.2.2.2.2.2.1,c.2.2.2.2.2.2.2.2.1,c.2.2.2.2.2.2.2.2.2.1,c.2.2.2.2.2.2.2.2.2.2.1,c.2.2.2.2.2.2.2.2.2.2.2.1,c.2.2.2.2.2.2.2.2.2.2.2.2.1,c.2.2.2.2.2.2.2.2.2.2.2.2.2.1,c.2.2.2.2.2.2.2.2.2.2.2.2.2.2.1,c.2.2.2.2.2.2.2.2.2.2.2.2.2.2.2)))
end
def spec_l01Cur_keyIn.f (k:Nat) (a:List Int) (d e g:Int) (b:List (S52)):Option (Int×Int×Int×Int×Int×Int×Int×Int×Int×Int×Int×Int×Int×Int×Int×Int):=if (b.length:Int) > 0 then ((spec_l01Cur_once.f a d e 3).bind fun c=>(spec_l01Cur_keyIn.j0 k (!c.1) a c.2.1 c.2.2 g b)) else (spec_l01Cur_keyIn.j0 k false a d e g b)
theorem spec_l01Cur_keyIn.calls (k g:Nat) (d:List Int) (i j l:Int) (K:Option Addr) (M:Nat) (a:List (S52)) (m n o p q r s u v x y z A B E G:Int) (c w:World) (hI:IsS61 c w g d i j) (hB:Below c.heap.size c w) (ah:∀ W_,KeepBut w W_ g none→Kd.C k52 W_ K a.length a) (ai:a.length≤M) (h:spec_l01Cur_keyIn.f k d i j l a=some (m,n,o,p,q,r,s,u,v,x,y,z,A,B,E,G)) :
  Calls Try.prog 14 #[.pointer (some ⟨g,0,none⟩),.agg #[I L l,Y K a.length M]] w fun e w'=>e=.returned (.agg #[I L m,I L n,I L o,I L p,I L q,I L r,I L s,I L u,I L v,I L x,I L y,I L z,I L A,I L B])∧IsS61 c w' g d E G∧Below c.heap.size c w'∧KeepBut w w' g none:=by
 have hu26:=Try.underlying26
 have hu32:=Try.underlying32
 have aj:=D ah
 have aK:=D ai
 clear ah ai
 have HI0:=D hI
 have HK:=D (KeepBut.refl w g none)
 have HL:=D hB.size
 clear hI
 have ak:=D hB.size
 have HB:=D hB
 clear hB
 have H:(if (a.length:Int) > 0 then ((spec_l01Cur_once.f d i j 3).bind fun W=>(spec_l01Cur_keyIn.j0 k (!W.1) d W.2.1 W.2.2 l a)) else (spec_l01Cur_keyIn.j0 k false d i j l a))=some (m,n,o,p,q,r,s,u,v,x,y,z,A,B,E,G):=h
 clear h
 have X:=D H
 clear H
 go_enter Try.func14,Try.ntmps14
 go_upto_region 1 with (first|((with_reducible refine gld_ 32 rfl ?_);(first|refine qm_ ?_|refine la32_ ?_))|((with_reducible refine gld_ 4 rfl ?_);refine lc4_ ?_)|((with_reducible refine gst_ 32 rfl ?_);refine sa32_ ?_)|((with_reducible refine qg_ (N:=3) rfl ?_);refine bx_ (N:=3) (cs:=#[I L l,Y K a.length M]) (t:=26) ?_;intro Xe hg w4 hbox hb;have n_:=an_ (IsS61.below (pU61_ HI0.out) hb)<|an_ (KeepBut.trans (pK_ HK.out) (KeepBut.of_below hb g none) (.inl rfl))<|an_ (qc_ (pT61_ HB.out) hb)<|an_ (hbox)<|an_ ((by rw [hg];exact (qo_ (w:=w) (g:=g) (row:=none) (pK_ HK.out)):w.heap.size≤Xe))<|an_ ((Nat.le_trans ak.out (by rw [hg];exact (qo_ (w:=w) (g:=g) (row:=none) (pK_ HK.out)):w.heap.size≤Xe):c.heap.size≤Xe))<|an_ ((by rw [hg];exact Nat.ne_of_lt (IsS61.lt (show IsS61 c _ g d i j from pS61_ HI0.out)):g≠Xe))<|D (by rw [hg];exact Nat.ne_of_gt (IsS61.lt (show IsS61 c _ g d i j from pS61_ HI0.out)):Xe≠g);clear HI0 HK HB;obtain ⟨HI0,HK,HB,Ua,Jo,Ko,Ug,Ke⟩:=n_;clear hb hbox hg)|((with_reducible refine qg_ (N:=4) rfl ?_);refine bx_ (N:=4) (cs:=#[I L 0,I L 0,I L 0,I L 0,I L 0,I L 0,I L 0,I L 0,I L 0,I L 0,I L 0,I L 0,I L 0,I L 0]) (t:=32) ?_;intro Ka hg w5 hbox hb;have n_:=an_ (IsS61.below (pU61_ HI0.out) hb)<|an_ (qb_ (pk_ Ua.out) hb)<|an_ (KeepBut.trans (pK_ HK.out) (KeepBut.of_below hb g none) (.inl rfl))<|an_ (qc_ (pT61_ HB.out) hb)<|an_ (hbox)<|an_ ((by rw [hg];exact (qo_ (w:=w) (g:=g) (row:=none) (pK_ HK.out)):w.heap.size≤Ka))<|an_ ((Nat.le_trans ak.out (by rw [hg];exact (qo_ (w:=w) (g:=g) (row:=none) (pK_ HK.out)):w.heap.size≤Ka):c.heap.size≤Ka))<|an_ (nl_ hg (pk_ Ua.out):Xe≠Ka)<|an_ (ng_ hg (pk_ Ua.out):Ka≠Xe)<|an_ ((by rw [hg];exact Nat.ne_of_lt (IsS61.lt (show IsS61 c _ g d i j from pS61_ HI0.out)):g≠Ka))<|D (by rw [hg];exact Nat.ne_of_gt (IsS61.lt (show IsS61 c _ g d i j from pS61_ HI0.out)):Ka≠g);clear HI0 Ua HK HB;obtain ⟨HI0,Ua,HK,HB,Ja,Mo,Oo,Xf,Jg,Xi,Kg⟩:=n_;clear hb hbox hg))
 (try simp only [Act.put,List.setIfInBounds_toArray,List.set_cons_zero,List.set_cons_succ])
 go_cut [14] (fun v14 wc=>∃ (kq:Nat) (Mi:Bool) (Uh:Int) (Xh:Int),v14=.bool Mi∧Aside0 (spec_l01Cur_keyIn.j0 kq Mi d Uh Xh l a=some (m,n,o,p,q,r,s,u,v,x,y,z,A,B,E,G))∧Aside0 (kq≤k)∧Aside0 (wc.heap[Xe]?=some (.cells #[I L l,(Y K a.length M)] 26 (0,0)))∧Aside0 (wc.heap[Ka]?=some (.cells #[I L 0,I L 0,I L 0,I L 0,I L 0,I L 0,I L 0,I L 0,I L 0,I L 0,I L 0,I L 0,I L 0,I L 0] 32 (0,0)))∧Aside0 (IsS61 c wc g d Uh Xh)∧Aside0 (KeepBut w wc g none)∧Aside0 (Below c.heap.size c wc))
 case first =>
  have H:=X.out;clear X
  by_cases c6:(a.length:Int) > 0
  ·rw [if_pos c6] at H
   have O:decide (0 < (a.length:Int))=true:=decide_eq_true c6;have Z:decide (0 < a.length)=true:=decide_eq_true (by omega);clear c6;refine rw_ O ?_;obtain ⟨⟨Mj,Oj,Uj⟩,al,H⟩:=bs_.mp H;(try dsimp only at H);have A7:=D al;clear al;have H':=D H;clear H;(try have:=Xf.out);(try have:=Jg.out);(try have:=Ke.out);(try have:=Ug.out);have Xj:=ql_ Ua.out
   go_wp2_with (first|((with_reducible refine gld_ 32 rfl ?_);(first|refine qm_ ?_|refine la32_ ?_))|((with_reducible refine gld_ 4 rfl ?_);refine lc4_ ?_)|((with_reducible refine gst_ 32 rfl ?_);refine sa32_ ?_)|(go_at_call 31;(with_reducible refine (spec_l01Cur_once.calls g d i j 3 Mj Oj Uj c _ ?side1 ?side2 A7.out).mono ?_);(case side1=>exact pS61_ HI0.out);(case side2=>exact pT61_ HB.out);rintro e aN ⟨rfl,hi,hb,hk⟩;have n_:=an_ (KeepBut.blk hk (pk_ Ua.out) Ke.out (by simp))<|an_ (KeepBut.blk hk (pk_ Ja.out) Kg.out (by simp))<|an_ (KeepBut.trans (pK_ HK.out) hk (.inl rfl))<|an_ (hb)<|D (hi);clear Ua Ja HK HB HI0;obtain ⟨Ua,Ja,HK,HB,HI0⟩:=n_;(try clear hb);(try clear hk);(try clear hi)))
   go_meet
   case rel=>exact ⟨_,(!Mj),(Oj),(Uj),Z35,H',⟨by first | omega | exact Nat.le_refl _⟩,⟨pk_ Ua.out⟩,⟨pk_ Ja.out⟩,⟨pS61_ HI0.out⟩,⟨pK_ HK.out⟩,⟨pT61_ HB.out⟩⟩
  ·rw [if_neg c6] at H
   have O:decide (0 < (a.length:Int))=false:=decide_eq_false c6;have Z:decide (0 < a.length)=false:=decide_eq_false (by omega);clear c6;refine rw_ O ?_;have H':=D H;clear H;(try have:=Xf.out);(try have:=Jg.out);(try have:=Ke.out);(try have:=Ug.out);have Ok:=ql_ Ua.out
   go_wp2_with (first|((with_reducible refine gld_ 32 rfl ?_);(first|refine qm_ ?_|refine la32_ ?_))|((with_reducible refine gld_ 4 rfl ?_);refine lc4_ ?_)|((with_reducible refine gst_ 32 rfl ?_);refine sa32_ ?_))
   go_meet
   case rel=>exact ⟨_,(false),(i),(j),Z35,H',⟨by first | omega | exact Nat.le_refl _⟩,⟨pk_ Ua.out⟩,⟨pk_ Ja.out⟩,⟨pS61_ HI0.out⟩,⟨pK_ HK.out⟩,⟨pT61_ HB.out⟩⟩
 case rest =>
  clear X
  (try clear c1);(try clear p2);(try clear c6);(try clear O);(try clear Z);(try clear c8);(try clear c9);(try clear ay);(try clear az);(try clear aA);(try clear Xj);(try clear Ok)
  obtain ⟨kq,Mi,Uh,Xh,rfl,HA,an,Ua,Ja,HI0,HK,HB⟩:=hcut
  cases kq with
  | zero=>exact absurd HA.out (by simp [spec_l01Cur_keyIn.j0])
  | succ kj2 =>
   have H:=HA.out;clear HA;simp only [spec_l01Cur_keyIn.j0] at H
   by_cases P:Mi=true
   ·subst P
    rw [if_pos rfl] at H;obtain ⟨⟨Km,Xg,Jh⟩,ao,H⟩:=bs_.mp H;(try dsimp only at H);have aB:=D ao;clear ao;have H':=D H;clear H;(try have:=Xf.out);(try have:=Jg.out);(try have:=Ke.out);(try have:=Ug.out);have Um:=ql_ Ua.out
    go_wp2_with (first|((with_reducible refine gld_ 32 rfl ?_);(first|refine qm_ ?_|refine la32_ ?_))|((with_reducible refine gld_ 4 rfl ?_);refine lc4_ ?_)|((with_reducible refine gst_ 32 rfl ?_);refine sa32_ ?_)|((with_reducible refine qd_ (f:=15) rfl ?_);refine qk_ (some 19) rfl rfl Try.func15 (by kernel_rfl) rfl #[.pointer (some ⟨g,0,none⟩),I L (a.length:Int)] rfl Z12 ?_;(with_reducible refine (spec_l01Cur_pick.calls g d Uh Xh (a.length:Int) Km Xg Jh c _ ?side1 ?side2 aB.out).mono ?_);(case side1=>exact pS61_ HI0.out);(case side2=>exact pT61_ HB.out);rintro e aO ⟨rfl,hi,hb,hk⟩;refine ⟨_,rfl,?_⟩;have n_:=an_ (KeepBut.blk hk (pk_ Ua.out) Ke.out (by simp))<|an_ (KeepBut.blk hk (pk_ Ja.out) Kg.out (by simp))<|an_ (KeepBut.trans (pK_ HK.out) hk (.inl rfl))<|an_ (hb)<|D (hi);clear Ua Ja HK HB HI0;obtain ⟨Ua,Ja,HK,HB,HI0⟩:=n_;(try clear hb);(try clear hk);(try clear hi)))
    go_loopg [5] kj2 (fun kq v5 w'=>∃ (b:Int) (Kh:Int) (Mf:Int) (Me:Int) (Md:Int) (Mc:Int) (Xb:Int) (Ub:Int) (Ob:Int) (Mb:Int) (Kb:Int) (Jb:Int) (Xa:Int) (Oa:Int) (Ma:Int),v5=I L b∧Aside0 (spec_l01Cur_keyIn.l0 kq b d Xg Jh l a=some (m,n,o,p,q,r,s,u,v,x,y,z,A,B,E,G))∧Aside0 (kq≤kj2)∧Aside0 (w'.heap[Xe]?=some (.cells #[I L l,(Y K a.length M)] 26 (0,0)))∧Aside0 (w'.heap[Ka]?=some (.cells #[I L Kh,I L Mf,I L Me,I L Md,I L Mc,I L Xb,I L Ub,I L Ob,I L Mb,I L Kb,I L Jb,I L Xa,I L Oa,I L Ma] 32 (0,0)))∧Aside0 (IsS61 c w' g d Xg Jh)∧Aside0 (KeepBut w w' g none)∧Aside0 (Below c.heap.size c w'))
    case atStart=>exact ⟨(Km),(0),(0),(0),(0),(0),(0),(0),(0),(0),(0),(0),(0),(0),(0),Z35,H',⟨Nat.le_refl _⟩,⟨pk_ Ua.out⟩,⟨pk_ Ja.out⟩,⟨pS61_ HI0.out⟩,⟨pK_ HK.out⟩,⟨pT61_ HB.out⟩⟩
    case round =>
     clear H'
     (try clear c1);(try clear p2);(try clear c6);(try clear O);(try clear Z);(try clear c8);(try clear c9);(try clear ay);(try clear az);(try clear aA);(try clear P);(try clear aP);(try clear aQ);(try clear Xj);(try clear Ok);(try clear Um);(try clear p2)
     obtain ⟨b,Kh,Mf,Me,Md,Mc,Xb,Ub,Ob,Mb,Kb,Jb,Xa,Oa,Ma,rfl,HA,ap,Ua,Ja,HI0,HK,HB⟩:=hrel
     cases gk with
     | zero=>exact absurd HA.out (by simp [spec_l01Cur_keyIn.l0])
     | succ k2 =>
      have H:=HA.out;clear HA;simp only [spec_l01Cur_keyIn.l0] at H
      by_cases J:b < (a.length:Int)
      ·rw [if_pos J] at H
       have aC:decide (b < (a.length:Int))=true:=decide_eq_true J;clear J
       by_cases T:0≤b
       ·rw [if_pos T] at H
        have aR:decide (0≤b)=true:=decide_eq_true T;clear T;have aq:=D H;clear H;(try have:=Xf.out);(try have:=Jg.out);(try have:=Ke.out);(try have:=Ug.out);have Uo:=ql_ Ua.out;have ab:0≤(b:Int):=od_ Z22;have ac:b < (a.length:Int):=od_ Z22;obtain ⟨aD,aE,aS,aT,aU,aV,aW,aX,aY,aZ,a0,a1,a2,a3,a4,a5,a6,a7⟩:=at_T52 (Kd.C_foot_now aj.out HK.out) b ab ac;cases aE;replace ab:=eq_true ab;replace ac:=eq_true ac
        go_upto_if 32 with (first|((with_reducible refine gld_ 32 rfl ?_);(first|refine qm_ ?_|refine la32_ ?_))|((with_reducible refine gld_ 4 rfl ?_);refine lc4_ ?_)|((with_reducible refine gst_ 32 rfl ?_);refine sa32_ ?_))
        have H:=aq.out;clear aq;obtain ⟨ar,ad⟩:∃ b_:Bool,b_=((qa_ a b).f0):=⟨_,rfl⟩
        replace H:(if ar=true then (some ((qa_ a b).f1.f0,(qa_ a b).f1.f1.f0.f0,(qa_ a b).f1.f1.f0.f1,(qa_ a b).f1.f1.f0.f2,(qa_ a b).f1.f1.f0.f3,(qa_ a b).f1.f1.f0.f4,(qa_ a b).f1.f1.f1.f0,(qa_ a b).f1.f1.f1.f1,(qa_ a b).f1.f1.f1.f2,(qa_ a b).f1.f1.f1.f3,(qa_ a b).f1.f1.f1.f4,(qa_ a b).f1.f1.f2,(qa_ a b).f1.f1.f3,(qa_ a b).f1.f1.f4,Xg,Jh)) else (spec_l01Cur_keyIn.l0 k2 (wrap64 (b+1)) d Xg Jh l a))=some (m,n,o,p,q,r,s,u,v,x,y,z,A,B,E,G):=by rw [← ad] at H;exact H
        have ae:=D ad;clear ad;(try rw [← ae.out])
        by_cases U:ar=true
        ·subst U
         rw [if_pos rfl] at H;simp only [Option.some.injEq,Prod.mk.injEq] at H;obtain ⟨rfl,rfl,rfl,rfl,rfl,rfl,rfl,rfl,rfl,rfl,rfl,rfl,rfl,rfl,rfl,rfl⟩:=H;(try have:=Xf.out);(try have:=Jg.out);(try have:=Ke.out);(try have:=Ug.out);have Mp:=ql_ Ua.out;have af:0≤(b:Int):=od_ Z22;have ag:b < (a.length:Int):=od_ Z22;obtain ⟨aF,aG,aH,a8,a9,ba,bb,bc,bd,be,bf,bg,bh,bi,bj,bk,bl,bm⟩:=at_T52 (Kd.C_foot_now aj.out HK.out) b af ag;(try rw [← ae.out] at aH);(try rw [← ae.out] at bn);obtain rfl:aD=aF:=(by injection aG);replace af:=eq_true af;replace ag:=eq_true ag;(try have:=Kg.out);(try have:=Xi.out)
         go_wp2_with (first|((with_reducible refine gld_ 32 rfl ?_);(first|refine qm_ ?_|refine la32_ ?_))|((with_reducible refine gld_ 4 rfl ?_);refine lc4_ ?_)|((with_reducible refine gst_ 32 rfl ?_);refine sa32_ ?_))
         refine bodyPost_ret (results_cell_row rfl _ _ Ka 32 #[I L ((qa_ a b).f1.f0),I L ((qa_ a b).f1.f1.f0.f0),I L ((qa_ a b).f1.f1.f0.f1),I L ((qa_ a b).f1.f1.f0.f2),I L ((qa_ a b).f1.f1.f0.f3),I L ((qa_ a b).f1.f1.f0.f4),I L ((qa_ a b).f1.f1.f1.f0),I L ((qa_ a b).f1.f1.f1.f1),I L ((qa_ a b).f1.f1.f1.f2),I L ((qa_ a b).f1.f1.f1.f3),I L ((qa_ a b).f1.f1.f1.f4),I L ((qa_ a b).f1.f1.f2),I L ((qa_ a b).f1.f1.f3),I L ((qa_ a b).f1.f1.f4)] (0,0) _ rfl (by exact pP_ Ja.out) Try.underlying32 rfl (by kernel_rfl)) rfl ?_
         exact ⟨er_,pS61_ HI0.out,pT61_ HB.out,pK_ HK.out⟩
        ·replace U:=Bool.eq_false_iff.mpr U
         subst U;rw [if_neg (show ¬ (false=true) by decide)] at H;have H':=D H;clear H
         go_wp2_with (first|((with_reducible refine gld_ 32 rfl ?_);(first|refine qm_ ?_|refine la32_ ?_))|((with_reducible refine gld_ 4 rfl ?_);refine lc4_ ?_)|((with_reducible refine gst_ 32 rfl ?_);refine sa32_ ?_))
         go_roundg k2
         case measure=>have:=an.out;have:=ap.out;omega
         case rel=>exact ⟨(wrap64 (b+1)),(Kh),(Mf),(Me),(Md),(Mc),(Xb),(Ub),(Ob),(Mb),(Kb),(Jb),(Xa),(Oa),(Ma),Z35,H',⟨by have:=an.out;have:=ap.out;omega⟩,⟨pk_ Ua.out⟩,⟨pk_ Ja.out⟩,⟨pS61_ HI0.out⟩,⟨pK_ HK.out⟩,⟨pT61_ HB.out⟩⟩
       ·rw [if_neg T] at H
        exact absurd H (by simp)
      ·rw [if_neg J] at H
       have aC:decide (b < (a.length:Int))=false:=decide_eq_false J;clear J;obtain ⟨⟨Jc,Oc,Xc,Od,Xd,Oe,Jf,Of,Mg,Mh,Ji,Oi,Jj,Mm,Mn,On⟩,au,H⟩:=bs_.mp H;(try dsimp only at H);have aI:=D au;clear au;simp only [Option.some.injEq,Prod.mk.injEq] at H;obtain ⟨rfl,rfl,rfl,rfl,rfl,rfl,rfl,rfl,rfl,rfl,rfl,rfl,rfl,rfl,rfl,rfl⟩:=H;(try have:=Xf.out);(try have:=Jg.out);(try have:=Ke.out);(try have:=Ug.out);have Uv:=ql_ Ua.out
       go_wp2_with (first|((with_reducible refine gld_ 32 rfl ?_);(first|refine qm_ ?_|refine la32_ ?_))|((with_reducible refine gld_ 4 rfl ?_);refine lc4_ ?_)|((with_reducible refine gst_ 32 rfl ?_);refine sa32_ ?_)|((with_reducible refine qd_ (f:=32) rfl ?_);refine qk_ (some 40) rfl rfl Try.func32 (by kernel_rfl) rfl #[.pointer (some ⟨g,0,none⟩)] rfl Z12 ?_;(with_reducible refine (spec_l01Cur_badFlowKey.calls k2 g d Xg Jh Jc Oc Xc Od Xd Oe Jf Of Mg Mh Ji Oi Jj Mm Mn On c _ ?side1 ?side2 aI.out).mono ?_);(case side1=>exact pS61_ HI0.out);(case side2=>exact pT61_ HB.out);rintro e bo ⟨rfl,hi,hb,hk⟩;refine ⟨_,rfl,?_⟩;have n_:=an_ (KeepBut.blk hk (pk_ Ua.out) Ke.out (by simp))<|an_ (KeepBut.blk hk (pk_ Ja.out) Kg.out (by simp))<|an_ (KeepBut.trans (pK_ HK.out) hk (.inl rfl))<|an_ (hb)<|D (hi);clear Ua Ja HK HB HI0;obtain ⟨Ua,Ja,HK,HB,HI0⟩:=n_;(try clear hb);(try clear hk);(try clear hi);(try have:=Kg.out);(try have:=Xi.out)))
       refine bodyPost_ret (results_cell_row rfl _ _ Ka 32 #[I L Jc,I L Oc,I L Xc,I L Od,I L Xd,I L Oe,I L Jf,I L Of,I L Mg,I L Mh,I L Ji,I L Oi,I L Jj,I L Mm] (0,0) _ rfl (by exact pP_ Ja.out) Try.underlying32 rfl (by kernel_rfl)) rfl ?_;exact ⟨er_,pS61_ HI0.out,pT61_ HB.out,pK_ HK.out⟩
   ·replace P:=Bool.eq_false_iff.mpr P
    subst P;rw [if_neg (show ¬ (false=true) by decide)] at H;obtain ⟨⟨Kc,Uc,Jd,Ud,Je,Ue,Kf,Uf,Og,Oh,Ki,Ui,Kj,Om,Un,Xn⟩,av,H⟩:=bs_.mp H;(try dsimp only at H);have aJ:=D av;clear av;simp only [Option.some.injEq,Prod.mk.injEq] at H;obtain ⟨rfl,rfl,rfl,rfl,rfl,rfl,rfl,rfl,rfl,rfl,rfl,rfl,rfl,rfl,rfl,rfl⟩:=H
    go_wp2_with (first|((with_reducible refine gld_ 32 rfl ?_);(first|refine qm_ ?_|refine la32_ ?_))|((with_reducible refine gld_ 4 rfl ?_);refine lc4_ ?_)|((with_reducible refine gst_ 32 rfl ?_);refine sa32_ ?_)|((with_reducible refine qd_ (f:=32) rfl ?_);refine qk_ (some 40) rfl rfl Try.func32 (by kernel_rfl) rfl #[.pointer (some ⟨g,0,none⟩)] rfl Z12 ?_;(with_reducible refine (spec_l01Cur_badFlowKey.calls kj2 g d Uh Xh Kc Uc Jd Ud Je Ue Kf Uf Og Oh Ki Ui Kj Om Un Xn c _ ?side1 ?side2 aJ.out).mono ?_);(case side1=>exact pS61_ HI0.out);(case side2=>exact pT61_ HB.out);rintro e bp ⟨rfl,hi,hb,hk⟩;refine ⟨_,rfl,?_⟩;have n_:=an_ (KeepBut.blk hk (pk_ Ua.out) Ke.out (by simp))<|an_ (KeepBut.blk hk (pk_ Ja.out) Kg.out (by simp))<|an_ (KeepBut.trans (pK_ HK.out) hk (.inl rfl))<|an_ (hb)<|D (hi);clear Ua Ja HK HB HI0;obtain ⟨Ua,Ja,HK,HB,HI0⟩:=n_;(try clear hb);(try clear hk);(try clear hi);(try have:=Jg.out);(try have:=Xf.out);(try have:=Kg.out);(try have:=Xi.out)))
    refine bodyPost_ret (results_cell_row rfl _ _ Ka 32 #[I L Kc,I L Uc,I L Jd,I L Ud,I L Je,I L Ue,I L Kf,I L Uf,I L Og,I L Oh,I L Ki,I L Ui,I L Kj,I L Om] (0,0) _ rfl (by exact pP_ Ja.out) Try.underlying32 rfl (by kernel_rfl)) rfl ?_;exact ⟨er_,pS61_ HI0.out,pT61_ HB.out,pK_ HK.out⟩
end Go.Proofs.Yteahaehbciccmaa.PFnPutDrop
