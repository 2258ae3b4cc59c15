-- by a program of this session's, over the kit's words
import Derived.Test.YteahaehbciccmaaPZFnPutDrop
import Derived.Test.YteahaehbciccmaaPFnPutDropx0
import Derived.Test.YteahaehbciccmaaPFnPutDropx3
import Derived.Test.YteahaehbciccmaaPFnPutDropx4
import Derived.Test.YteahaehbciccmaaPFnPutDropx6
import Derived.Test.YteahaehbciccmaaPFnPutDropx13
import Derived.Test.YteahaehbciccmaaPFnPutDropx14
namespace Go.Proofs.Yteahaehbciccmaa.PFnPutDrop
open Go.RowKit Go.Proofs.YteahaehbciccmaaW.PrintWords Go.Proofs.YteahaehbciccmaaW.PrintLast Go.Proofs.YteahaehbciccmaaW.PrintMore Go.Proofs.YteahaehbciccmaaV Go.Proofs.Yteahaehbciccmaa.ZFnPutDrop
open Go.Value renaming int → I, slice → Y
open Go.IntKind renaming i64 → L
open Aside0 renaming mk → D
open Option renaming bind_eq_some_iff → bs_
attribute [local go_sem] qad_ qab_ qak_ qaj_ q4_ q3_ qac_ qaa_
attribute [local irreducible] putN
set_option linter.unusedVariables false
set_option linter.unusedSimpArgs false
set_option maxHeartbeats 8000000
set_option maxRecDepth 100000
def spec_DrawTablePut.f (k:Nat) (l0:List Int):Option (Int×(List (S52))×Int×Int×Int×Int×Int×Int×Int×Int×Int×Int×Int×Int×Int×Int×Int):=(spec_l01Open.f l0).bind fun b=>((spec_l01Cur_badTable.f k b.1 b.2.1 b.2.2).bind fun c=>((spec_l01Cur_keyIn.f k b.1 c.2.2.1 c.2.2.2 c.1 c.2.1).bind fun a=>((spec_l01Cur_pick.f b.1 a.2.2.2.2.2.2.2.2.2.2.2.2.2.2.1 a.2.2.2.2.2.2.2.2.2.2.2.2.2.2.2 256).bind fun d=>((spec_l01Cur_raw.f b.1 d.2.1 d.2.2).bind fun e=>((some (([d.1,e.1,1000000000000,1000000000001]:List Int):List Int)).bind fun h=>((spec_l01Cur_pick.f b.1 e.2.1 e.2.2 4).bind fun g=>(if 0≤g.1 then (if g.1 < (h.length:Int) then (some (c.1,c.2.1,a.1,a.2.1,a.2.2.1,a.2.2.2.1,a.2.2.2.2.1,a.2.2.2.2.2.1,a.2.2.2.2.2.2.1,a.2.2.2.2.2.2.2.1,a.2.2.2.2.2.2.2.2.1,a.2.2.2.2.2.2.2.2.2.1,a.2.2.2.2.2.2.2.2.2.2.1,a.2.2.2.2.2.2.2.2.2.2.2.1,a.2.2.2.2.2.2.2.2.2.2.2.2.1,a.2.2.2.2.2.2.2.2.2.2.2.2.2.1,rd h g.1)) else (none)) else (none))))))))
def spec_DrawTablePut.T3:Bool×List (List Nat×List Nat):=(true,[([],[]),([],[]),([],[]),([1,2],[1,2]),([],[]),([4,3],[4]),([],[]),([6,5],[6]),([5,7],[5,7]),([],[]),([9,7],[9]),([8,10],[8,10]),([11],[11]),([0,10,0],[0]),([3,13,0,1,2,3,13],[3]),([12,14,0,1,2,3,4,5,6,7,8,9,10,11,12,13,14],[12])])
def spec_DrawTablePut.B3:List Nat:=[0,0,0,6,0,30,0,126,254,0,766,2046,4094,1791,9983,32767]
theorem spec_DrawTablePut.tab3:rtab .any (opsOf Try.f5 3)=spec_DrawTablePut.T3:=by kernel_rfl
theorem spec_DrawTablePut.bits3:q8_ spec_DrawTablePut.T3.2 spec_DrawTablePut.B3=true:=by kernel_rfl
theorem spec_DrawTablePut.calls (k:Nat) (A0:Option Addr) (c0:Nat) (l0:List Int) (J:Int) (O:List (S52)) (P T U W X Z r9 ab ac ad ae af ag ah ai:Int) (w:World) (av:Kd.C (Kd.int .u8) w A0 l0.length l0) (aw:l0.length≤c0) (h:spec_DrawTablePut.f k l0=some (J,O,P,T,U,W,X,Z,r9,ab,ac,ad,ae,af,ag,ah,ai)) :
  Calls Try.prog 5 #[Y A0 l0.length c0] w fun e w'=>∃ ax:Value,e=.returned (.tuple #[.agg #[I L J,ax],.agg #[I L P,I L T,I L U,I L W,I L X,I L Z,I L r9,I L ab,I L ac,I L ad,I L ae,I L af,I L ag,I L ah],I L ai])∧Kd.R k52 52 w' w.heap.size (fun _=>True) ax O∧Below w.heap.size w w':=by
 have hu26:=Try.underlying26
 have hu32:=Try.underlying32
 have aQ:=D av
 have aR:=D aw
 clear av aw
 have HB:=D (Below.refl w.heap.size w)
 have H:((spec_l01Open.f l0).bind fun r=>((spec_l01Cur_badTable.f k r.1 r.2.1 r.2.2).bind fun y=>((spec_l01Cur_keyIn.f k r.1 y.2.2.1 y.2.2.2 y.1 y.2.1).bind fun l=>((spec_l01Cur_pick.f r.1 l.2.2.2.2.2.2.2.2.2.2.2.2.2.2.1 l.2.2.2.2.2.2.2.2.2.2.2.2.2.2.2 256).bind fun am=>((spec_l01Cur_raw.f r.1 am.2.1 am.2.2).bind fun an=>((some (([am.1,an.1,1000000000000,1000000000001]:List Int):List Int)).bind fun j=>((spec_l01Cur_pick.f r.1 an.2.1 an.2.2 4).bind fun s=>(if 0≤s.1 then (if s.1 < (j.length:Int) then (some (y.1,y.2.1,l.1,l.2.1,l.2.2.1,l.2.2.2.1,l.2.2.2.2.1,l.2.2.2.2.2.1,l.2.2.2.2.2.2.1,l.2.2.2.2.2.2.2.1,l.2.2.2.2.2.2.2.2.1,l.2.2.2.2.2.2.2.2.2.1,l.2.2.2.2.2.2.2.2.2.2.1,l.2.2.2.2.2.2.2.2.2.2.2.1,l.2.2.2.2.2.2.2.2.2.2.2.2.1,l.2.2.2.2.2.2.2.2.2.2.2.2.2.1,rd j s.1)) else (none)) else (none)))))))))=some (J,O,P,T,U,W,X,Z,r9,ab,ac,ad,ae,af,ag,ah,ai):=h
 clear h
 obtain ⟨⟨Kc,Xi,Jj⟩,ay,H⟩:=bs_.mp H
 (try dsimp only at H)
 have A2:=D ay
 clear ay
 obtain ⟨⟨Jb,Ua,Xf,Jg⟩,az,H⟩:=bs_.mp H
 (try dsimp only at H)
 have A3:=D az
 clear az
 obtain ⟨⟨Mc,Oc,Uc,Xc,Md,Od,Xd,Ke,Me,Ue,Xe,Jf,Kf,Mf,Oh,Uh⟩,aA,H⟩:=bs_.mp H
 (try dsimp only at H)
 have A4:=D aA
 clear aA
 obtain ⟨⟨Of,Xh,Ji⟩,aB,H⟩:=bs_.mp H
 (try dsimp only at H)
 have A5:=D aB
 clear aB
 obtain ⟨⟨Uf,Kg,Mg⟩,aC,H⟩:=bs_.mp H
 (try dsimp only at H)
 have A6:=D aC
 clear aC
 obtain ⟨j,z⟩:∃ y_:List Int,y_=(([Of,Uf,1000000000000,1000000000001]:List Int)):=⟨_,rfl⟩
 replace H:((spec_l01Cur_pick.f Kc Kg Mg 4).bind fun s=>(if 0≤s.1 then (if s.1 < (j.length:Int) then (some (Jb,Ua,Mc,Oc,Uc,Xc,Md,Od,Xd,Ke,Me,Ue,Xe,Jf,Kf,Mf,rd j s.1)) else (none)) else (none)))=some (J,O,P,T,U,W,X,Z,r9,ab,ac,ad,ae,af,ag,ah,ai):=by first|(rw [z];with_reducible exact H)|(have H2_:=(Option.bind_some _ _).symm.trans H;rw [z];with_reducible exact H2_)|(have H2_:=(Option.bind_some _ _).symm.trans H;with_reducible exact H2_)|with_reducible exact H|(rw [z];exact H)|exact H
 have ao:=D z
 clear z
 obtain ⟨⟨Jd,Mi,Oi⟩,aD,H⟩:=bs_.mp H
 (try dsimp only at H)
 have A7:=D aD
 clear aD
 by_cases c8:0≤Jd
 ·rw [if_pos c8] at H
  have a7:decide (0≤Jd)=true:=decide_eq_true c8;clear c8
  by_cases c9:Jd < (j.length:Int)
  ·rw [if_pos c9] at H
   have a8:decide (Jd < (j.length:Int))=true:=decide_eq_true c9;clear c9;simp only [Option.some.injEq,Prod.mk.injEq] at H;obtain ⟨rfl,rfl,rfl,rfl,rfl,rfl,rfl,rfl,rfl,rfl,rfl,rfl,rfl,rfl,rfl,rfl,rfl⟩:=H;go_enter Try.func5,Try.ntmps5
   try go_wp2_with (first|((with_reducible refine gst_ 32 rfl ?_);refine sa32_ ?_)|((with_reducible refine gld_ 32 rfl ?_);refine la32_ ?_)|((with_reducible refine qg_ (N:=2) rfl ?_);refine bx_ (N:=2) (cs:=#[I L 0,Y none 0 0]) (t:=26) ?_;intro Oe hg a9 hbox hb;have n_:=an_ (qc_ (pB_ HB.out) hb)<|an_ (hbox)<|an_ (bg_ hg (pB_ HB.out):w.heap.size≤Oe)<|D (bg_ hg (pB_ HB.out):w.heap.size≤Oe);clear HB;obtain ⟨HB,Ka,Jk,Kk⟩:=n_;clear hb hbox hg)|((with_reducible refine qg_ (N:=3) rfl ?_);refine bx_ (N:=3) (cs:=#[I L 0,I L 0,I L 0,I L 0,I L 0,I L 0,I L 0,I L 0,I L 0,I L 0,I L 0,I L 0,I L 0,I L 0]) (t:=32) ?_;intro Jc hg ba hbox hb;have n_:=an_ (qb_ (pk_ Ka.out) hb)<|an_ (qc_ (pB_ HB.out) hb)<|an_ (hbox)<|an_ (bg_ hg (pB_ HB.out):w.heap.size≤Jc)<|an_ (bg_ hg (pB_ HB.out):w.heap.size≤Jc)<|an_ (nl_ hg (pk_ Ka.out):Oe≠Jc)<|D (by rw [hg];exact Nat.ne_of_gt (qz_ (pk_ Ka.out)):Jc≠Oe);clear Ka HB;obtain ⟨Ka,HB,Ja,Mk,Ok,Mb,Ud⟩:=n_;clear hb hbox hg)|((with_reducible refine qd_ (f:=12) rfl ?_);refine qk_ (some 8) rfl rfl Try.func12 (by kernel_rfl) rfl #[Y A0 l0.length c0] rfl Z12 ?_;(with_reducible refine (spec_l01Open.calls _ _ l0 Kc Xi Jj w _ ?side1 ?side2 ?side3 A2.out).mono ?_);(case side1=>exact pB_ HB.out);(case side2=>exact aQ.out);(case side3=>exact aR.out);rintro e bb ⟨d,rfl,hi,hb,u⟩;refine ⟨_,rfl,?_⟩;have n_:=an_ (qb_ (pk_ Ka.out) u)<|an_ (qb_ (pk_ Ja.out) u)<|an_ (hb)<|an_ (hi)<|an_ (IsS61.ne_blk hi (qb_ (pk_ Ka.out) u) (by decide))<|an_ (Ne.symm (IsS61.ne_blk hi (qb_ (pk_ Ka.out) u) (by decide)))<|an_ (IsS61.ne_blk hi (qb_ (pk_ Ja.out) u) (by decide))<|D (Ne.symm (IsS61.ne_blk hi (qb_ (pk_ Ja.out) u) (by decide)));clear Ka Ja HB;obtain ⟨Ka,Ja,HB,c,Kj,Ug,Mj,Xg⟩:=n_;(try clear hb);(try clear u);(try clear hi))|((with_reducible refine qd_ (f:=13) rfl ?_);refine qk_ (some 10) rfl rfl Try.func13 (by kernel_rfl) rfl #[.pointer (some ⟨d,0,none⟩)] rfl Z12 ?_;(with_reducible refine (spec_l01Cur_badTable.calls k d Kc Xi Jj Jb Ua Xf Jg w _ ?side1 ?side2 A3.out).mono ?_);(case side1=>exact pS61_ c.out);(case side2=>exact pT61_ HB.out);rintro e bc ⟨Uk,rfl,aE,hi,hb,hk⟩;refine ⟨_,rfl,?_⟩;have n_:=an_ (KeepBut.blk hk (pk_ Ka.out) Ug.out (by simp))<|an_ (KeepBut.blk hk (pk_ Ja.out) Xg.out (by simp))<|an_ (Kd.R_lower aE (qh_ (pT61_ HB.out)))<|an_ (hb)<|D (hi);clear Ka Ja HB c;obtain ⟨Ka,Ja,Oa,HB,c⟩:=n_;(try clear hb);(try clear hk);(try clear hi);(try clear aE))|((with_reducible refine qg_ (N:=6) rfl ?_);refine bx_ (N:=6) (cs:=#[I L 0,Y none 0 0]) (t:=26) ?_;intro Xa hg aY hbox hb;have n_:=an_ (Kd.R_below (pR_ Oa.out) hb)<|an_ (qb_ (pk_ Ka.out) hb)<|an_ (qb_ (pk_ Ja.out) hb)<|an_ (IsS61.below (pU61_ c.out) hb)<|an_ (qc_ (pT61_ HB.out) hb)<|an_ (hbox)<|an_ ((by rw [hg];exact (qh_ (pT61_ HB.out)):w.heap.size≤Xa))<|an_ ((by rw [hg];exact (qh_ (pT61_ HB.out)):w.heap.size≤Xa))<|an_ (nl_ hg (pk_ Ka.out):Oe≠Xa)<|an_ (ng_ hg (pk_ Ka.out):Xa≠Oe)<|an_ (nl_ hg (pk_ Ja.out):Jc≠Xa)<|an_ (ng_ hg (pk_ Ja.out):Xa≠Jc)<|an_ ((by rw [hg];exact Nat.ne_of_lt (IsS61.lt (show IsS61 w _ d Kc Xf Jg from pS61_ c.out)):d≠Xa))<|D (by rw [hg];exact Nat.ne_of_gt (IsS61.lt (show IsS61 w _ d Kc Xf Jg from pS61_ c.out)):Xa≠d);clear Oa Ka Ja c HB;obtain ⟨Oa,Ka,Ja,c,HB,Ma,Xk,Jm,Jh,Kh,Je,Ob,Ui,Mh⟩:=n_;clear hb hbox hg;(try have:=Kh.out);(try have:=Jh.out);(try have:=Ob.out);(try have:=Je.out);(try have:=Mh.out);(try have:=Ui.out);have Km:=ql_ Ma.out;obtain ⟨Ub,Xb,aZ⟩:=Kd.R_slice Oa.out;subst aZ))
   have pi720:(0≤(Jd:Int))=True:=eq_true (od_ Z22);have qi720:(Jd < (j.length:Int))=True:=eq_true (od_ Z22);obtain ⟨x,hq_⟩:∃ W_,W_=((aY.setCell ⟨Xa,0,none⟩ (I L Jb)).setCell ⟨Xa,1,none⟩ (Y Ub Ua.length Xb)):=⟨_,rfl⟩;have m:Aside0 (Kd.R k52 52 x w.heap.size (fun _=>True) (Y Ub Ua.length Xb) Ua):=⟨by rw [hq_];exact rM_ (Kd.R_types Oa.out Ma.out (by decide)) (fun _ hk=>trivial)⟩;have o:Aside0 (x.heap[Oe]?=some (.cells #[I L 0,Y none 0 0] 26 (0,0))):=⟨by rw [hq_];exact pP_ Ka.out⟩;have A:Aside0 (x.heap[Jc]?=some (.cells #[I L 0,I L 0,I L 0,I L 0,I L 0,I L 0,I L 0,I L 0,I L 0,I L 0,I L 0,I L 0,I L 0,I L 0] 32 (0,0))):=⟨by rw [hq_];exact pP_ Ja.out⟩;have B:Aside0 (x.heap[Xa]?=some (.cells #[I L Jb,Y Ub Ua.length Xb] 26 (0,0))):=⟨by rw [hq_];exact pP_ Ma.out⟩;have E:Aside0 (IsS61 w x d Kc Xf Jg):=⟨by rw [hq_];exact pS61_ c.out⟩;have p:Aside0 (Below w.heap.size w x):=⟨by rw [hq_];exact pT61_ HB.out⟩;(try clear Oa);(try clear Ka);(try clear Ja);(try clear Ma);(try clear c);(try clear HB);(try rw [←hq_]);clear hq_;have Oa:=m;have Ka:=o;have Ja:=A;have Ma:=B;have c:=E;have HB:=p;clear m o A B E p
   have n_:=an_ (Kd.R_drew Oa.out)<|an_ (qt_ Ka.out)<|an_ (qt_ Ja.out)<|an_ (qt_ Ma.out)<|an_ (IsS61.drew c.out)<|D (qr_ HB.out)
   clear Oa Ka Ja Ma c HB;obtain ⟨Oa,Ka,Ja,Ma,c,HB⟩:=n_;refine qaw_ (n:=16) (S:=fun w'=>True) (ds:=[]) #[false,false,false,false,false,false,false,false,false,false,false,false,false,false,false,false] (by kernel_rfl) rfl rfl trivial (fun hHeld=>?_);refine q6_ spec_DrawTablePut.tab3 spec_DrawTablePut.bits3 (fun HT_ HW_=>?_);generalize x.drew=bd at Oa Ka Ja Ma c HB hHeld ⊢;refine pure_ (i:=1) (N:=some 12) (v:=?_) (a':=?_) #[false,true,false,false,false,false,false,false,false,false,false,false,false,false,false,false] rfl rfl (qap_ HT_.out (by kernel_rfl)) (fun _ _ _ h=>h) (Or.inl ⟨by rfl,?_⟩) ?_ ?_;rotate_left
   ·intro w'
    go_simp
    with_reducible rfl
   rotate_left
   ·simp only [Act.put,List.setIfInBounds_toArray,List.set_cons_zero,List.set_cons_succ,i64_w,i32_w]
    rfl
   refine pure_ (i:=4) (N:=some 15) (v:=?_) (a':=?_) #[false,true,false,false,true,false,false,false,false,false,false,false,false,false,false,false] rfl rfl (qap_ HT_.out (by kernel_rfl)) (fun _ _ _ h=>h) (Or.inl ⟨by rfl,?_⟩) ?_ ?_;rotate_left
   ·intro w'
    go_simp
    with_reducible rfl
   rotate_left
   ·simp only [Act.put,List.setIfInBounds_toArray,List.set_cons_zero,List.set_cons_succ,i64_w,i32_w]
    rfl
   refine pure_ (i:=6) (N:=some 17) (v:=?_) (a':=?_) #[false,true,false,false,true,false,true,false,false,false,false,false,false,false,false,false] rfl rfl (qap_ HT_.out (by kernel_rfl)) (fun _ _ _ h=>h) (Or.inl ⟨by rfl,?_⟩) ?_ ?_;rotate_left
   ·intro w'
    go_simp
    with_reducible rfl
   rotate_left
   ·simp only [Act.put,List.setIfInBounds_toArray,List.set_cons_zero,List.set_cons_succ,i64_w,i32_w]
    rfl
   refine pure_ (i:=9) (N:=some 20) (v:=?_) (a':=?_) #[false,true,false,false,true,false,true,false,false,true,false,false,false,false,false,false] rfl rfl (qap_ HT_.out (by kernel_rfl)) (fun _ _ _ h=>h) (Or.inl ⟨by rfl,?_⟩) ?_ ?_;rotate_left
   ·intro w'
    go_simp
    with_reducible rfl
   rotate_left
   ·simp only [Act.put,List.setIfInBounds_toArray,List.set_cons_zero,List.set_cons_succ,i64_w,i32_w]
    rfl
   refine inv_at [0,2,3,5,7,8,10,11,12,13,14,15] (fun a0 b a w'=>∃ (Kb:Value) (adz_v715:Addr) (g:Value),a=qan_ a0 b [(0,11,.agg #[I L Jb,Y Ub Ua.length Xb]),(2,13,.agg #[I L Jb,Y Ub Ua.length Xb]),(3,14,.agg #[I L Mc,I L Oc,I L Uc,I L Xc,I L Md,I L Od,I L Xd,I L Ke,I L Me,I L Ue,I L Xe,I L Jf,I L Kf,I L Mf]),(5,16,I L Of),(7,18,I L Uf),(8,19,Kb),(10,21,I L Jd),(11,22,g),(12,23,I L (rd j Jd)),(15,4,I L (rd j Jd))]∧(Kd.R k52 52 w' w.heap.size (fun _=>True) (Y Ub Ua.length Xb) Ua)∧(b 13=false→w'.heap[Oe]?=some (.cells #[I L 0,Y none 0 0] 26 (0,0)))∧(b 14=false→w'.heap[Jc]?=some (.cells #[I L 0,I L 0,I L 0,I L 0,I L 0,I L 0,I L 0,I L 0,I L 0,I L 0,I L 0,I L 0,I L 0,I L 0] 32 (0,0)))∧(w'.heap[Xa]?=some (.cells #[I L Jb,Y Ub Ua.length Xb] 26 (0,0)))∧(b 3=false→IsS61 w w' d Kc Xf Jg)∧(Below w.heap.size w w')∧(b 3=true→b 5=false→IsS61 w w' d Kc Oh Uh)∧(b 5=true→b 7=false→IsS61 w w' d Kc Xh Ji)∧(b 7=true→b 10=false→IsS61 w w' d Kc Kg Mg)∧(b 8=true→Kd.R (Kd.int .i64) 3 w' w.heap.size (fun _=>True) Kb j)∧(b 8=true→∃ c_,(Kb:Value)=Y (some adz_v715) j.length c_)∧(b 10=true→IsS61 w w' d Kc Mi Oi)∧(b 13=true→w'.heap[Oe]?=some (.cells #[I L Jb,Y Ub Ua.length Xb] 26 (0,0)))∧(b 14=true→w'.heap[Jc]?=some (.cells #[I L Mc,I L Oc,I L Uc,I L Xc,I L Md,I L Od,I L Xd,I L Ke,I L Me,I L Ue,I L Xe,I L Jf,I L Kf,I L Mf] 32 (0,0)))∧(b 11=true→(g:Value)=.pointer (some (adz_v715.add (Jd).toNat)))) HT_.out HW_.out (by kernel_rfl) (by kernel_rfl) ?_ ?_ ?_
   ·exact ⟨.bool false,⟨0,0,none⟩,.bool false,by simp only [qan_,Bool.false_eq_true,if_false],Oa.out,fun _=>Ka.out,fun _=>Ja.out,Ma.out,fun _=>c.out,HB.out,fun h_=>absurd h_ (by decide),fun h_=>absurd h_ (by decide),fun h_=>absurd h_ (by decide),fun h_=>absurd h_ (by decide),fun h_=>absurd h_ (by decide),fun h_=>absurd h_ (by decide),fun h_=>absurd h_ (by decide),fun h_=>absurd h_ (by decide),fun h_=>absurd h_ (by decide)⟩
   ·skip
    clear Ka Ja Ma HB c Oa;refine qp_ ?_ ?_
    ·rintro b a w' ⟨Kb,adz_v715,g,ha,Q_HO688,Q_BK679,Q_BK680,Q_BK691,Q_HI684,Q_HB,Q_HI684_e3,Q_HI684_e5,Q_HI684_e7,Q_HO716,Q_HA_HO716,Q_HI684_e10,Q_BK679_e13,Q_BK680_e14,Q_X11_⟩ hb_ hon hoff
     refine ⟨_,rfl,fun K hK=>?_⟩
     have e6:a.tmps[6]?=some (.pointer (some ⟨Xa,0,none⟩)):=by rw [ha];exact (qx_ rfl).trans rfl
     replace ha:=D ha;have Oa:=D Q_HO688;have Ka:=D (Q_BK679 (hoff 13 (by kernel_rfl)));have Ja:=D (Q_BK680 (hoff 14 (by kernel_rfl)));have Ma:=D Q_BK691;have HB:=D Q_HB;have a1:w'.cell? ⟨Xa,0,none⟩=some (I L Jb):=bc_ Ma.out 0;have a2:w'.cell? ⟨Xa,1,none⟩=some (Y Ub Ua.length Xb):=bc_ Ma.out 1;refine qav_ (w1:=w') (v:=.agg #[I L Jb,Y Ub Ua.length Xb]) (by rfl) rfl ?_ ?_
     ·go_simp
      (try simp only [i64_w])
      try rfl
     refine hK.out _ _ ⟨Kb,adz_v715,g,Z24,Q_HO688,Q_BK679,Q_BK680,Q_BK691,Q_HI684,Q_HB,Q_HI684_e3,Q_HI684_e5,Q_HI684_e7,Q_HO716,Q_HA_HO716,Q_HI684_e10,fun h0_=>absurd ((hoff 13 (by kernel_rfl)).symm.trans h0_) (by decide),fun h0_=>absurd ((hoff 14 (by kernel_rfl)).symm.trans h0_) (by decide),Q_X11_⟩
    refine qp_ ?_ ?_
    ·rintro b a w' ⟨Kb,adz_v715,g,ha,Q_HO688,Q_BK679,Q_BK680,Q_BK691,Q_HI684,Q_HB,Q_HI684_e3,Q_HI684_e5,Q_HI684_e7,Q_HO716,Q_HA_HO716,Q_HI684_e10,Q_BK679_e13,Q_BK680_e14,Q_X11_⟩ hb_ hon hoff
     refine ⟨_,rfl,fun K hK=>?_⟩
     have e6:a.tmps[6]?=some (.pointer (some ⟨Xa,0,none⟩)):=by rw [ha];exact (qx_ rfl).trans rfl
     replace ha:=D ha;have Oa:=D Q_HO688;have Ka:=D (Q_BK679 (hoff 13 (by kernel_rfl)));have Ja:=D (Q_BK680 (hoff 14 (by kernel_rfl)));have Ma:=D Q_BK691;have c:=D (Q_HI684 (hoff 3 (by kernel_rfl)));have HB:=D Q_HB;have a1:w'.cell? ⟨Xa,0,none⟩=some (I L Jb):=bc_ Ma.out 0;have a2:w'.cell? ⟨Xa,1,none⟩=some (Y Ub Ua.length Xb):=bc_ Ma.out 1;refine qav_ (w1:=w') (v:=.agg #[I L Jb,Y Ub Ua.length Xb]) (by rfl) rfl ?_ ?_
     ·go_simp
      (try simp only [i64_w])
      try rfl
     refine hK.out _ _ ⟨Kb,adz_v715,g,Z25,Q_HO688,Q_BK679,Q_BK680,Q_BK691,Q_HI684,Q_HB,fun h0_ _=>absurd ((hoff 3 (by kernel_rfl)).symm.trans h0_) (by decide),fun h0_ _=>absurd ((hoff 5 (by kernel_rfl)).symm.trans h0_) (by decide),fun h0_ _=>absurd ((hoff 7 (by kernel_rfl)).symm.trans h0_) (by decide),fun h0_=>absurd ((hoff 8 (by kernel_rfl)).symm.trans h0_) (by decide),fun h0_=>absurd ((hoff 8 (by kernel_rfl)).symm.trans h0_) (by decide),fun h0_=>absurd ((hoff 10 (by kernel_rfl)).symm.trans h0_) (by decide),fun h0_=>absurd ((hoff 13 (by kernel_rfl)).symm.trans h0_) (by decide),fun h0_=>absurd ((hoff 14 (by kernel_rfl)).symm.trans h0_) (by decide),fun h0_=>absurd ((hoff 11 (by kernel_rfl)).symm.trans h0_) (by decide)⟩
    refine qp_ ?_ ?_
    ·rintro b a w' ⟨Kb,adz_v715,g,ha,Q_HO688,Q_BK679,Q_BK680,Q_BK691,Q_HI684,Q_HB,Q_HI684_e3,Q_HI684_e5,Q_HI684_e7,Q_HO716,Q_HA_HO716,Q_HI684_e10,Q_BK679_e13,Q_BK680_e14,Q_X11_⟩ hb_ hon hoff
     refine ⟨_,rfl,fun K hK=>?_⟩
     have e12:a.tmps[12]?=some (.pointer (some ⟨d,0,none⟩)):=by rw [ha];exact (qx_ rfl).trans rfl
     have e13:a.tmps[13]?=some (.agg #[I L Jb,Y Ub Ua.length Xb]):=by rw [ha];exact qq_ (e:=(2,13,.agg #[I L Jb,Y Ub Ua.length Xb])) 1 rfl rfl (hon 2 (by kernel_rfl)) rfl
     replace ha:=D ha;have Oa:=D Q_HO688;have Ka:=D (Q_BK679 (hoff 13 (by kernel_rfl)));have Ja:=D (Q_BK680 (hoff 14 (by kernel_rfl)));have Ma:=D Q_BK691;have c:=D (Q_HI684 hb_);have HB:=D Q_HB;refine goes_ Try.func14 (by kernel_rfl) rfl #[.pointer (some ⟨d,0,none⟩),.agg #[I L Jb,Y Ub Ua.length Xb]] (by rfl) rfl rfl (by first|(simp only [List.map_toArray,List.map_cons,List.map_nil,Act.eval,Array.getD_eq_getD_getElem?,Option.getD_some,e12,e13];done)|(simp only [List.map_toArray,List.map_cons,List.map_nil,Act.eval,Array.getD_eq_getD_getElem?,Option.getD_some,e12,e13];rfl)) ?_;with_reducible refine (spec_l01Cur_keyIn.calls k d Kc Xf Jg Jb _ _ Ua Mc Oc Uc Xc Md Od Xd Ke Me Ue Xe Jf Kf Mf Oh Uh w _ ?side1 ?side2 ?side3 ?side4 A4.out).mono ?_
     (case side1=>exact pS61_ c.out);(case side2=>exact pT61_ HB.out);(case side3=>exact Kd.C_foot_own (IsS61.apart (show IsS61 w _ d Kc Xf Jg from pS61_ c.out) (pR_ Oa.out) (by decide)) (fun _ h_=>h_.2));(case side4=>exact (Kd.R_reads' Oa.out).2.1);rintro e be ⟨rfl,hi,hb,hk⟩;refine ⟨_,rfl,?_⟩
     have n_:=an_ (KeepBut.blk hk (pk_ Ka.out) Ug.out (by simp))<|an_ (KeepBut.blk hk (pk_ Ja.out) Xg.out (by simp))<|an_ (Kd.R_mono (Kd.R_keep (IsS61.apart (show IsS61 w _ d Kc Xf Jg from pS61_ c.out) (pR_ Oa.out) (by decide)) hk (fun _ h=>h.2)) (fun _ h=>h.1))<|an_ (KeepBut.blk hk (pk_ Ma.out) Mh.out (by simp))<|an_ (hb)<|D (hi)
     clear Ka Ja Oa Ma HB c;obtain ⟨Ka,Ja,Oa,Ma,HB,c⟩:=n_;refine hK.out _ _ ⟨Kb,adz_v715,g,Z26,(pR_ Oa.out),fun _=>(pk_ Ka.out),fun _=>(pk_ Ja.out),(pk_ Ma.out),fun h0_=>absurd ((qah_ b 3).symm.trans h0_) (by decide),(pT61_ HB.out),fun _ _=>(pS61_ c.out),fun h0_ _=>absurd ((hoff 5 (by kernel_rfl)).symm.trans h0_) (by decide),fun h0_ _=>absurd ((hoff 7 (by kernel_rfl)).symm.trans h0_) (by decide),fun h0_=>absurd ((hoff 8 (by kernel_rfl)).symm.trans h0_) (by decide),fun h0_=>absurd ((hoff 8 (by kernel_rfl)).symm.trans h0_) (by decide),fun h0_=>absurd ((hoff 10 (by kernel_rfl)).symm.trans h0_) (by decide),fun h0_=>absurd ((hoff 13 (by kernel_rfl)).symm.trans h0_) (by decide),fun h0_=>absurd ((hoff 14 (by kernel_rfl)).symm.trans h0_) (by decide),fun h0_=>absurd ((hoff 11 (by kernel_rfl)).symm.trans h0_) (by decide)⟩
    refine qp_ ?_ ?_
    ·rintro b a w' ⟨Kb,adz_v715,g,ha,Q_HO688,Q_BK679,Q_BK680,Q_BK691,Q_HI684,Q_HB,Q_HI684_e3,Q_HI684_e5,Q_HI684_e7,Q_HO716,Q_HA_HO716,Q_HI684_e10,Q_BK679_e13,Q_BK680_e14,Q_X11_⟩ hb_ hon hoff
     refine ⟨_,rfl,fun K hK=>?_⟩
     have aF:a.tmps[15]?=some (.pointer (some ⟨d,0,none⟩)):=by rw [ha];exact (qx_ rfl).trans rfl
     replace ha:=D ha;have Oa:=D Q_HO688;have Ka:=D (Q_BK679 (hoff 13 (by kernel_rfl)));have Ja:=D (Q_BK680 (hoff 14 (by kernel_rfl)));have Ma:=D Q_BK691;have HB:=D Q_HB;have c:=D (Q_HI684_e3 (hon 3 (by kernel_rfl)) hb_);refine goes_ Try.func15 (by kernel_rfl) rfl #[.pointer (some ⟨d,0,none⟩),I L 256] (by rfl) rfl rfl (by first|(simp only [List.map_toArray,List.map_cons,List.map_nil,Act.eval,Array.getD_eq_getD_getElem?,Option.getD_some,aF];done)|(simp only [List.map_toArray,List.map_cons,List.map_nil,Act.eval,Array.getD_eq_getD_getElem?,Option.getD_some,aF];rfl)) ?_;with_reducible refine (spec_l01Cur_pick.calls d Kc Oh Uh 256 Of Xh Ji w _ ?side1 ?side2 A5.out).mono ?_
     (case side1=>exact pS61_ c.out);(case side2=>exact pT61_ HB.out);rintro e bf ⟨rfl,hi,hb,hk⟩;refine ⟨_,rfl,?_⟩
     have n_:=an_ (KeepBut.blk hk (pk_ Ka.out) Ug.out (by simp))<|an_ (KeepBut.blk hk (pk_ Ja.out) Xg.out (by simp))<|an_ (Kd.R_mono (Kd.R_keep (IsS61.apart (show IsS61 w _ d Kc Oh Uh from pS61_ c.out) (pR_ Oa.out) (by decide)) hk (fun _ h=>h.2)) (fun _ h=>h.1))<|an_ (KeepBut.blk hk (pk_ Ma.out) Mh.out (by simp))<|an_ (hb)<|D (hi)
     clear Ka Ja Oa Ma HB c;obtain ⟨Ka,Ja,Oa,Ma,HB,c⟩:=n_;refine hK.out _ _ ⟨Kb,adz_v715,g,Z27,(pR_ Oa.out),fun _=>(pk_ Ka.out),fun _=>(pk_ Ja.out),(pk_ Ma.out),fun h0_=>absurd ((hon 3 (by kernel_rfl)).symm.trans h0_) (by decide),(pT61_ HB.out),fun _ h1_=>absurd ((qah_ b 5).symm.trans h1_) (by decide),fun _ _=>(pS61_ c.out),fun h0_ _=>absurd ((hoff 7 (by kernel_rfl)).symm.trans h0_) (by decide),fun h0_=>absurd ((hoff 8 (by kernel_rfl)).symm.trans h0_) (by decide),fun h0_=>absurd ((hoff 8 (by kernel_rfl)).symm.trans h0_) (by decide),fun h0_=>absurd ((hoff 10 (by kernel_rfl)).symm.trans h0_) (by decide),fun h0_=>absurd ((hoff 13 (by kernel_rfl)).symm.trans h0_) (by decide),fun h0_=>absurd ((hoff 14 (by kernel_rfl)).symm.trans h0_) (by decide),fun h0_=>absurd ((hoff 11 (by kernel_rfl)).symm.trans h0_) (by decide)⟩
    refine qp_ ?_ ?_
    ·rintro b a w' ⟨Kb,adz_v715,g,ha,Q_HO688,Q_BK679,Q_BK680,Q_BK691,Q_HI684,Q_HB,Q_HI684_e3,Q_HI684_e5,Q_HI684_e7,Q_HO716,Q_HA_HO716,Q_HI684_e10,Q_BK679_e13,Q_BK680_e14,Q_X11_⟩ hb_ hon hoff
     refine ⟨_,rfl,fun K hK=>?_⟩
     have aG:a.tmps[17]?=some (.pointer (some ⟨d,0,none⟩)):=by rw [ha];exact (qx_ rfl).trans rfl
     replace ha:=D ha;have Oa:=D Q_HO688;have Ka:=D (Q_BK679 (hoff 13 (by kernel_rfl)));have Ja:=D (Q_BK680 (hoff 14 (by kernel_rfl)));have Ma:=D Q_BK691;have HB:=D Q_HB;have c:=D (Q_HI684_e5 (hon 5 (by kernel_rfl)) hb_);refine goes_ Try.func16 (by kernel_rfl) rfl #[.pointer (some ⟨d,0,none⟩)] (by rfl) rfl rfl (by first|(simp only [List.map_toArray,List.map_cons,List.map_nil,Act.eval,Array.getD_eq_getD_getElem?,Option.getD_some,aG];done)|(simp only [List.map_toArray,List.map_cons,List.map_nil,Act.eval,Array.getD_eq_getD_getElem?,Option.getD_some,aG];rfl)) ?_;with_reducible refine (spec_l01Cur_raw.calls d Kc Xh Ji Uf Kg Mg w _ ?side1 ?side2 A6.out).mono ?_
     (case side1=>exact pS61_ c.out);(case side2=>exact pT61_ HB.out);rintro e bg ⟨rfl,hi,hb,hk⟩;refine ⟨_,rfl,?_⟩
     have n_:=an_ (KeepBut.blk hk (pk_ Ka.out) Ug.out (by simp))<|an_ (KeepBut.blk hk (pk_ Ja.out) Xg.out (by simp))<|an_ (Kd.R_mono (Kd.R_keep (IsS61.apart (show IsS61 w _ d Kc Xh Ji from pS61_ c.out) (pR_ Oa.out) (by decide)) hk (fun _ h=>h.2)) (fun _ h=>h.1))<|an_ (KeepBut.blk hk (pk_ Ma.out) Mh.out (by simp))<|an_ (hb)<|D (hi)
     clear Ka Ja Oa Ma HB c;obtain ⟨Ka,Ja,Oa,Ma,HB,c⟩:=n_;refine hK.out _ _ ⟨Kb,adz_v715,g,Z28,(pR_ Oa.out),fun _=>(pk_ Ka.out),fun _=>(pk_ Ja.out),(pk_ Ma.out),fun h0_=>absurd ((hon 3 (by kernel_rfl)).symm.trans h0_) (by decide),(pT61_ HB.out),fun _ h1_=>absurd ((hon 5 (by kernel_rfl)).symm.trans h1_) (by decide),fun _ h1_=>absurd ((qah_ b 7).symm.trans h1_) (by decide),fun _ _=>(pS61_ c.out),fun h0_=>absurd ((hoff 8 (by kernel_rfl)).symm.trans h0_) (by decide),fun h0_=>absurd ((hoff 8 (by kernel_rfl)).symm.trans h0_) (by decide),fun h0_=>absurd ((hoff 10 (by kernel_rfl)).symm.trans h0_) (by decide),fun h0_=>absurd ((hoff 13 (by kernel_rfl)).symm.trans h0_) (by decide),fun h0_=>absurd ((hoff 14 (by kernel_rfl)).symm.trans h0_) (by decide),fun h0_=>absurd ((hoff 11 (by kernel_rfl)).symm.trans h0_) (by decide)⟩
    refine qp_ ?_ ?_
    ·rintro b a w' ⟨Kb,adz_v715,g,ha,Q_HO688,Q_BK679,Q_BK680,Q_BK691,Q_HI684,Q_HB,Q_HI684_e3,Q_HI684_e5,Q_HI684_e7,Q_HO716,Q_HA_HO716,Q_HI684_e10,Q_BK679_e13,Q_BK680_e14,Q_X11_⟩ hb_ hon hoff
     refine ⟨_,rfl,fun K hK=>?_⟩
     have bh:a.tmps[16]?=some (I L Of):=by rw [ha];exact qq_ (e:=(5,16,I L Of)) 3 rfl rfl (hon 5 (by kernel_rfl)) rfl
     have bi:a.tmps[18]?=some (I L Uf):=by rw [ha];exact qq_ (e:=(7,18,I L Uf)) 4 rfl rfl (hon 7 (by kernel_rfl)) rfl
     replace ha:=D ha;have Oa:=D Q_HO688;have Ma:=D Q_BK691;have HB:=D Q_HB;refine Kd.R_lit_step (Kd.int .i64) _ 3 ?hg (N:=19) ?hd (xs:=([Of,Uf,1000000000000,1000000000001]:List Int)) (inner:=[I L Of,I L Uf,I L 1000000000000,I L 1000000000001]) (ok:=fun _=>True) (okp:=fun _=>True) ?hr ?hp (fun _ hk=>hk) trivial (Below.refl _ _) (Nat.le_refl _) (by simp) ?_;(case hd=>rfl);(case hg=>rfl);(case hr=>first|(go_simp;done)|(go_simp;rfl));(case hp=>exact (Reps.one (show Kd.M (Kd.int .i64) _ _ _ Of [I L Of] from rfl) (Reps.one (show Kd.M (Kd.int .i64) _ _ _ Uf [I L Uf] from rfl) (Reps.one (show Kd.M (Kd.int .i64) _ _ _ 1000000000000 [I L 1000000000000] from rfl) (Reps.one (show Kd.M (Kd.int .i64) _ _ _ 1000000000001 [I L 1000000000001] from rfl) (Reps.none _ _))))));intro Kb q G hb hg_ hnew_;clear hg_ hnew_;(first|rw [← ao.out] at G|(simp only [Int.reduceToNat] at G;rw [← ao.out] at G));have m:=D (Kd.R_below (pR_ Oa.out) hb);have o:=D (Kd.R_lower G (qh_ (pB_ HB.out)));have p:=D (qb_ (pk_ Ma.out) hb);have aH:=D (qc_ (pB_ HB.out) hb)
     have z_BK679:=fun (h0_:b 13=false)=>(show q.heap[Oe]?=some (.cells #[I L 0,Y none 0 0] 26 (0,0)) from by first | exact (qb_ (pk_ (Q_BK679 h0_)) hb))
     have z_BK680:=fun (h0_:b 14=false)=>(show q.heap[Jc]?=some (.cells #[I L 0,I L 0,I L 0,I L 0,I L 0,I L 0,I L 0,I L 0,I L 0,I L 0,I L 0,I L 0,I L 0,I L 0] 32 (0,0)) from by first|exact (qb_ (pk_ (Q_BK680 h0_)) hb))
     have z_HI684_e7:=fun (h0_:b 7=true) (h1_:b 10=false)=>(show IsS61 w q d Kc Kg Mg from by first|exact (IsS61.below (by repeat (first|(with_reducible first|exact (Q_HI684_e7 h0_ h1_)|apply IsS61.alloc|apply IsS61.drewN|apply IsS61.drew|apply IsS61.set_1|apply IsS61.set_2|refine IsS61.far ?_ Kj.out _|refine IsS61.far ?_ Mj.out _|refine IsS61.far ?_ Ui.out _)|exact (Q_HI684_e7 h0_ h1_))) hb))
     have z_HI684_e10:=fun (h0_:b 10=true)=>(show IsS61 w q d Kc Mi Oi from by first|exact (IsS61.below (by repeat (first|(with_reducible first|exact (Q_HI684_e10 h0_)|apply IsS61.alloc|apply IsS61.drewN|apply IsS61.drew|apply IsS61.set_1|apply IsS61.set_2|refine IsS61.far ?_ Kj.out _|refine IsS61.far ?_ Mj.out _|refine IsS61.far ?_ Ui.out _)|exact (Q_HI684_e10 h0_))) hb))
     have z_BK679_e13:=fun (h0_:b 13=true)=>(show q.heap[Oe]?=some (.cells #[I L Jb,Y Ub Ua.length Xb] 26 (0,0)) from by first | exact (qb_ (pk_ (Q_BK679_e13 h0_)) hb))
     have z_BK680_e14:=fun (h0_:b 14=true)=>(show q.heap[Jc]?=some (.cells #[I L Mc,I L Oc,I L Uc,I L Xc,I L Md,I L Od,I L Xd,I L Ke,I L Me,I L Ue,I L Xe,I L Jf,I L Kf,I L Mf] 32 (0,0)) from by first|exact (qb_ (pk_ (Q_BK680_e14 h0_)) hb))
     clear Oa;clear Ma;clear HB;have Oa:=m;have Og:=o;have Ma:=p;have HB:=aH;clear m o p aH;clear hb G;obtain ⟨Xm,Oj,a3⟩:=Kd.R_slice Og.out;subst a3;obtain ⟨ado28,fo28,_⟩:=Kd.at_int (Kd.R_reads' Og.out).2.2 0 (by decide) (by rw [ao.out];simp)
     cases fo28
     refine hK.out _ _ ⟨Y (some ado28) j.length Oj,ado28,g,Z29,(pR_ Oa.out),z_BK679,z_BK680,(pk_ Ma.out),fun h0_=>absurd ((hon 3 (by kernel_rfl)).symm.trans h0_) (by decide),(pB_ HB.out),fun _ h1_=>absurd ((hon 5 (by kernel_rfl)).symm.trans h1_) (by decide),fun _ h1_=>absurd ((hon 7 (by kernel_rfl)).symm.trans h1_) (by decide),z_HI684_e7,fun _=>(pR_ Og.out),fun _=>⟨_,rfl⟩,z_HI684_e10,z_BK679_e13,z_BK680_e14,fun h0_=>absurd ((hoff 11 (by kernel_rfl)).symm.trans h0_) (by decide)⟩
    refine qp_ ?_ ?_
    ·rintro b a w' ⟨Kb,adz_v715,g,ha,Q_HO688,Q_BK679,Q_BK680,Q_BK691,Q_HI684,Q_HB,Q_HI684_e3,Q_HI684_e5,Q_HI684_e7,Q_HO716,Q_HA_HO716,Q_HI684_e10,Q_BK679_e13,Q_BK680_e14,Q_X11_⟩ hb_ hon hoff
     refine ⟨_,rfl,fun K hK=>?_⟩
     have e20:a.tmps[20]?=some (.pointer (some ⟨d,0,none⟩)):=by rw [ha];exact (qx_ rfl).trans rfl
     replace ha:=D ha;have Oa:=D Q_HO688;have Ka:=D (Q_BK679 (hoff 13 (by kernel_rfl)));have Ja:=D (Q_BK680 (hoff 14 (by kernel_rfl)));have Ma:=D Q_BK691;have HB:=D Q_HB;have c:=D (Q_HI684_e7 (hon 7 (by kernel_rfl)) hb_);refine goes_ Try.func15 (by kernel_rfl) rfl #[.pointer (some ⟨d,0,none⟩),I L 4] (by rfl) rfl rfl Z1 ?_;with_reducible refine (spec_l01Cur_pick.calls d Kc Kg Mg 4 Jd Mi Oi w _ ?side1 ?side2 A7.out).mono ?_
     (case side1=>exact pS61_ c.out);(case side2=>exact pT61_ HB.out);rintro e q ⟨rfl,hi,hb,hk⟩;refine ⟨_,rfl,?_⟩;have m:=D (KeepBut.blk hk (pk_ Ka.out) Ug.out (by simp));have o:=D (KeepBut.blk hk (pk_ Ja.out) Xg.out (by simp));have A:=D (Kd.R_mono (Kd.R_keep (IsS61.apart (show IsS61 w _ d Kc Kg Mg from pS61_ c.out) (pR_ Oa.out) (by decide)) hk (fun _ h=>h.2)) (fun _ h=>h.1));have B:=D (KeepBut.blk hk (pk_ Ma.out) Mh.out (by simp));have E:=D (hb);have p:=D (hi)
     have z_HO716:=fun (h0_:b 8=true)=>(show Kd.R (Kd.int .i64) 3 q w.heap.size (fun _=>True) Kb j from by first|exact (Kd.R_mono (Kd.R_keep (IsS61.apart (show IsS61 w _ d Kc Kg Mg from pS61_ c.out) (pR_ (Q_HO716 h0_)) (by decide)) hk (fun _ h=>h.2)) (fun _ h=>h.1))|exact Kd.R_mono (Kd.R_mono (Kd.R_keep (IsS61.apart (show IsS61 w _ d Kc Kg Mg from pS61_ c.out) (pR_ (Q_HO716 h0_)) (by decide)) hk (fun _ h=>h.2)) (fun _ h=>h.1)) (fun _ h_=>by first|trivial|exact h_|exact h_.1))
     clear Ka;clear Ja;clear Oa;clear Ma;clear HB;clear c;have Ka:=m;have Ja:=o;have Oa:=A;have Ma:=B;have HB:=E;have c:=p;clear m o A B E p;refine hK.out _ _ ⟨Kb,adz_v715,g,Z30,(pR_ Oa.out),fun _=>(pk_ Ka.out),fun _=>(pk_ Ja.out),(pk_ Ma.out),fun h0_=>absurd ((hon 3 (by kernel_rfl)).symm.trans h0_) (by decide),(pT61_ HB.out),fun _ h1_=>absurd ((hon 5 (by kernel_rfl)).symm.trans h1_) (by decide),fun _ h1_=>absurd ((hon 7 (by kernel_rfl)).symm.trans h1_) (by decide),fun _ h1_=>absurd ((qah_ b 10).symm.trans h1_) (by decide),z_HO716,Q_HA_HO716,fun _=>(pS61_ c.out),fun h0_=>absurd ((hoff 13 (by kernel_rfl)).symm.trans h0_) (by decide),fun h0_=>absurd ((hoff 14 (by kernel_rfl)).symm.trans h0_) (by decide),fun h0_=>absurd ((hoff 11 (by kernel_rfl)).symm.trans h0_) (by decide)⟩
    refine qp_ ?_ ?_
    ·rintro b a w' ⟨Kb,adz_v715,g,ha,Q_HO688,Q_BK679,Q_BK680,Q_BK691,Q_HI684,Q_HB,Q_HI684_e3,Q_HI684_e5,Q_HI684_e7,Q_HO716,Q_HA_HO716,Q_HI684_e10,Q_BK679_e13,Q_BK680_e14,Q_X11_⟩ hb_ hon hoff
     refine ⟨_,rfl,fun K hK=>?_⟩
     have a4:a.tmps[19]?=some (Kb):=by rw [ha];exact qq_ (e:=(8,19,Kb)) 5 rfl rfl (hon 8 (by kernel_rfl)) rfl
     have bj:a.tmps[21]?=some (I L Jd):=by rw [ha];exact qq_ (e:=(10,21,I L Jd)) 6 rfl rfl (hon 10 (by kernel_rfl)) rfl
     replace ha:=D ha;have Oa:=D Q_HO688;have Ma:=D Q_BK691;have HB:=D Q_HB;have Og:=D (Q_HO716 (hon 8 (by kernel_rfl)));have HA_HO716:=D (Q_HA_HO716 (hon 8 (by kernel_rfl)));have c:=D (Q_HI684_e10 (hon 10 (by kernel_rfl)));obtain ⟨c_,hv_⟩:=HA_HO716.out;rw [hv_] at a4;refine qav_ (w1:=w') (v:=.pointer (some (adz_v715.add (Jd).toNat))) (by rfl) rfl ?_ ?_
     ·go_simp
      (try simp only [i64_w])
      try rfl
     refine hK.out _ _ ⟨Kb,adz_v715,(.pointer (some (adz_v715.add (Jd).toNat))),Z31,Q_HO688,Q_BK679,Q_BK680,Q_BK691,fun h0_=>absurd ((hon 3 (by kernel_rfl)).symm.trans h0_) (by decide),Q_HB,fun _ h1_=>absurd ((hon 5 (by kernel_rfl)).symm.trans h1_) (by decide),fun _ h1_=>absurd ((hon 7 (by kernel_rfl)).symm.trans h1_) (by decide),fun _ h1_=>absurd ((hon 10 (by kernel_rfl)).symm.trans h1_) (by decide),Q_HO716,Q_HA_HO716,Q_HI684_e10,Q_BK679_e13,Q_BK680_e14,fun _=>rfl⟩
    refine qp_ ?_ ?_
    ·rintro b a w' ⟨Kb,adz_v715,g,ha,Q_HO688,Q_BK679,Q_BK680,Q_BK691,Q_HI684,Q_HB,Q_HI684_e3,Q_HI684_e5,Q_HI684_e7,Q_HO716,Q_HA_HO716,Q_HI684_e10,Q_BK679_e13,Q_BK680_e14,Q_X11_⟩ hb_ hon hoff
     refine ⟨_,rfl,fun K hK=>?_⟩
     have a5:a.tmps[22]?=some (g):=by rw [ha];exact qq_ (e:=(11,22,g)) 7 rfl rfl (hon 11 (by kernel_rfl)) rfl
     rw [Q_X11_ (hon 11 (by kernel_rfl))] at a5;replace ha:=D ha;have Oa:=D Q_HO688;have Ma:=D Q_BK691;have HB:=D Q_HB;have Og:=D (Q_HO716 (hon 8 (by kernel_rfl)));have HA_HO716:=D (Q_HA_HO716 (hon 8 (by kernel_rfl)));have c:=D (Q_HI684_e10 (hon 10 (by kernel_rfl)));obtain ⟨c_,hv_⟩:=HA_HO716.out;have hF_:=Og.out;rw [hv_] at hF_;obtain ⟨ad_,ea_,hx_⟩:=Kd.at_int (Kd.R_reads' hF_).2.2 Jd (of_eq_true pi720) (of_eq_true qi720);cases ea_;refine qav_ (w1:=w') (v:=I L (rd j Jd)) (by rfl) rfl ?_ ?_
     ·go_simp
      (try simp only [i64_w])
      try rfl
     refine hK.out _ _ ⟨Kb,adz_v715,g,Z32,Q_HO688,Q_BK679,Q_BK680,Q_BK691,fun h0_=>absurd ((hon 3 (by kernel_rfl)).symm.trans h0_) (by decide),Q_HB,fun _ h1_=>absurd ((hon 5 (by kernel_rfl)).symm.trans h1_) (by decide),fun _ h1_=>absurd ((hon 7 (by kernel_rfl)).symm.trans h1_) (by decide),fun _ h1_=>absurd ((hon 10 (by kernel_rfl)).symm.trans h1_) (by decide),Q_HO716,Q_HA_HO716,Q_HI684_e10,Q_BK679_e13,Q_BK680_e14,Q_X11_⟩
    refine qp_ ?_ ?_
    ·rintro b a w' ⟨Kb,adz_v715,g,ha,Q_HO688,Q_BK679,Q_BK680,Q_BK691,Q_HI684,Q_HB,Q_HI684_e3,Q_HI684_e5,Q_HI684_e7,Q_HO716,Q_HA_HO716,Q_HI684_e10,Q_BK679_e13,Q_BK680_e14,Q_X11_⟩ hb_ hon hoff
     refine ⟨_,rfl,fun K hK=>?_⟩
     have e2:a.tmps[2]?=some (.pointer (some ⟨Oe,0,none⟩)):=by rw [ha];exact (qx_ rfl).trans rfl
     have e11:a.tmps[11]?=some (.agg #[I L Jb,Y Ub Ua.length Xb]):=by rw [ha];exact qq_ (e:=(0,11,.agg #[I L Jb,Y Ub Ua.length Xb])) 0 rfl rfl (hon 0 (by kernel_rfl)) rfl
     replace ha:=D ha;have Oa:=D Q_HO688;have Ka:=D (Q_BK679 hb_);have Ja:=D (Q_BK680 (hoff 14 (by kernel_rfl)));have Ma:=D Q_BK691;have HB:=D Q_HB;have c:=D (Q_HI684_e10 (hon 10 (by kernel_rfl)));have bk:w'.cell? ⟨Oe,0,none⟩=some (I L 0):=bc_ Ka.out 0;have bl:=qj_ Ka.out 0;have bm:=Ud.out;have bn:=Kh.out;have bo:=Mb.out;have bp:=Jh.out;have bq:w'.cell? ⟨Oe,1,none⟩=some (Y none 0 0):=bc_ Ka.out 1;have bs:=qj_ Ka.out 1;have bu:=Ud.out;have bv:=Kh.out;have bw:=Mb.out;have bx:=Jh.out;refine skip_ (w1:=?_) (by rfl) rfl ?_ ?_;rotate_left
     ·go_simp
      rfl
     refine hK.out _ _ ⟨Kb,adz_v715,g,Z34,(rM_ (Kd.R_types Oa.out Ka.out (by decide)) (fun _ hk=>trivial)),fun h0_=>absurd ((qah_ b 13).symm.trans h0_) (by decide),fun _=>(by exact pP_ Ja.out),(by exact pP_ Ma.out),fun h0_=>absurd ((hon 3 (by kernel_rfl)).symm.trans h0_) (by decide),(pT61_ HB.out),fun _ h1_=>absurd ((hon 5 (by kernel_rfl)).symm.trans h1_) (by decide),fun _ h1_=>absurd ((hon 7 (by kernel_rfl)).symm.trans h1_) (by decide),fun _ h1_=>absurd ((hon 10 (by kernel_rfl)).symm.trans h1_) (by decide),fun h0_=>(rM_ (Kd.R_types (Q_HO716 h0_) Ka.out (by decide)) (fun _ hk=>trivial)),Q_HA_HO716,fun _=>(pS61_ c.out),fun _=>(by exact pP_ Ka.out),fun h0_=>absurd ((hoff 14 (by kernel_rfl)).symm.trans h0_) (by decide),Q_X11_⟩
    refine qp_ ?_ ?_
    ·rintro b a w' ⟨Kb,adz_v715,g,ha,Q_HO688,Q_BK679,Q_BK680,Q_BK691,Q_HI684,Q_HB,Q_HI684_e3,Q_HI684_e5,Q_HI684_e7,Q_HO716,Q_HA_HO716,Q_HI684_e10,Q_BK679_e13,Q_BK680_e14,Q_X11_⟩ hb_ hon hoff
     refine ⟨_,rfl,fun K hK=>?_⟩
     have e3:a.tmps[3]?=some (.pointer (some ⟨Jc,0,none⟩)):=by rw [ha];exact (qx_ rfl).trans rfl
     have a6:a.tmps[14]?=some (.agg #[I L Mc,I L Oc,I L Uc,I L Xc,I L Md,I L Od,I L Xd,I L Ke,I L Me,I L Ue,I L Xe,I L Jf,I L Kf,I L Mf]):=by rw [ha];exact qq_ (e:=(3,14,.agg #[I L Mc,I L Oc,I L Uc,I L Xc,I L Md,I L Od,I L Xd,I L Ke,I L Me,I L Ue,I L Xe,I L Jf,I L Kf,I L Mf])) 2 rfl rfl (hon 3 (by kernel_rfl)) rfl
     replace ha:=D ha;have Oa:=D Q_HO688;have Ja:=D (Q_BK680 hb_);have Ma:=D Q_BK691;have HB:=D Q_HB;have c:=D (Q_HI684_e10 (hon 10 (by kernel_rfl)));have Ka:=D (Q_BK679_e13 (hon 13 (by kernel_rfl)));have bA:w'.cell? ⟨Jc,0,none⟩=some (I L 0):=bc_ Ja.out 0;have bB:w'.cell? ⟨Jc,1,none⟩=some (I L 0):=bc_ Ja.out 1;have bC:w'.cell? ⟨Jc,2,none⟩=some (I L 0):=bc_ Ja.out 2;have bD:w'.cell? ⟨Jc,3,none⟩=some (I L 0):=bc_ Ja.out 3;have bE:w'.cell? ⟨Jc,4,none⟩=some (I L 0):=bc_ Ja.out 4;have bF:w'.cell? ⟨Jc,5,none⟩=some (I L 0):=bc_ Ja.out 5;have bG:w'.cell? ⟨Jc,6,none⟩=some (I L 0):=bc_ Ja.out 6;have bH:w'.cell? ⟨Jc,7,none⟩=some (I L 0):=bc_ Ja.out 7;have bI:w'.cell? ⟨Jc,8,none⟩=some (I L 0):=bc_ Ja.out 8;have bJ:w'.cell? ⟨Jc,9,none⟩=some (I L 0):=bc_ Ja.out 9;have bK:w'.cell? ⟨Jc,10,none⟩=some (I L 0):=bc_ Ja.out 10;have bL:w'.cell? ⟨Jc,11,none⟩=some (I L 0):=bc_ Ja.out 11;have bM:w'.cell? ⟨Jc,12,none⟩=some (I L 0):=bc_ Ja.out 12;have bN:w'.cell? ⟨Jc,13,none⟩=some (I L 0):=bc_ Ja.out 13;(first|refine skip_ (by rfl) rfl (sn32_ rfl (by show a.tmps.getD 3 undef=_;rw [Array.getD_eq_getD_getElem?,e3];rfl) (by show a.tmps.getD 14 undef=_;rw [Array.getD_eq_getD_getElem?,a6];rfl) (bB_ (Aside0.out (by assumption))) (of_decide_eq_true (by kernel_rfl))) ?_)
     refine hK.out _ _ ⟨Kb,adz_v715,g,Z34,(rM_ (Kd.R_types Oa.out Ja.out (by decide)) (fun _ hk=>trivial)),fun h0_=>absurd ((hon 13 (by kernel_rfl)).symm.trans h0_) (by decide),fun h0_=>absurd ((qah_ b 14).symm.trans h0_) (by decide),(by exact pP_ Ma.out),fun h0_=>absurd ((hon 3 (by kernel_rfl)).symm.trans h0_) (by decide),(pT61_ HB.out),fun _ h1_=>absurd ((hon 5 (by kernel_rfl)).symm.trans h1_) (by decide),fun _ h1_=>absurd ((hon 7 (by kernel_rfl)).symm.trans h1_) (by decide),fun _ h1_=>absurd ((hon 10 (by kernel_rfl)).symm.trans h1_) (by decide),fun h0_=>(rM_ (Kd.R_types (Q_HO716 h0_) Ja.out (by decide)) (fun _ hk=>trivial)),Q_HA_HO716,fun _=>(pS61_ c.out),fun _=>(by exact pP_ Ka.out),fun _=>(by exact pP_ Ja.out),Q_X11_⟩
    refine qp_ ?_ ?_
    ·rintro b a w' ⟨Kb,adz_v715,g,ha,Q_HO688,Q_BK679,Q_BK680,Q_BK691,Q_HI684,Q_HB,Q_HI684_e3,Q_HI684_e5,Q_HI684_e7,Q_HO716,Q_HA_HO716,Q_HI684_e10,Q_BK679_e13,Q_BK680_e14,Q_X11_⟩ hb_ hon hoff
     refine ⟨_,rfl,fun K hK=>?_⟩
     have bO:a.tmps[23]?=some (I L (rd j Jd)):=by rw [ha];exact qq_ (e:=(12,23,I L (rd j Jd))) 8 rfl rfl (hon 12 (by kernel_rfl)) rfl
     replace ha:=D ha;have Oa:=D Q_HO688;have Ma:=D Q_BK691;have HB:=D Q_HB;have Og:=D (Q_HO716 (hon 8 (by kernel_rfl)));have HA_HO716:=D (Q_HA_HO716 (hon 8 (by kernel_rfl)));have c:=D (Q_HI684_e10 (hon 10 (by kernel_rfl)));have Ka:=D (Q_BK679_e13 (hon 13 (by kernel_rfl)));have Ja:=D (Q_BK680_e14 (hon 14 (by kernel_rfl)));refine qav_ (w1:=w') (v:=I L (rd j Jd)) (by rfl) rfl ?_ ?_
     ·go_simp
      (try simp only [i64_w])
      try rfl
     refine hK.out _ _ ⟨Kb,adz_v715,g,Z33,Q_HO688,fun h0_=>absurd ((hon 13 (by kernel_rfl)).symm.trans h0_) (by decide),fun h0_=>absurd ((hon 14 (by kernel_rfl)).symm.trans h0_) (by decide),Q_BK691,fun h0_=>absurd ((hon 3 (by kernel_rfl)).symm.trans h0_) (by decide),Q_HB,fun _ h1_=>absurd ((hon 5 (by kernel_rfl)).symm.trans h1_) (by decide),fun _ h1_=>absurd ((hon 7 (by kernel_rfl)).symm.trans h1_) (by decide),fun _ h1_=>absurd ((hon 10 (by kernel_rfl)).symm.trans h1_) (by decide),Q_HO716,Q_HA_HO716,Q_HI684_e10,Q_BK679_e13,Q_BK680_e14,Q_X11_⟩
    exact steps_nil
   rintro b a bP hall ⟨Kb,adz_v715,g,ha,Q_HO688,Q_BK679,Q_BK680,Q_BK691,Q_HI684,Q_HB,Q_HI684_e3,Q_HI684_e5,Q_HI684_e7,Q_HO716,Q_HA_HO716,Q_HI684_e10,Q_BK679_e13,Q_BK680_e14,Q_X11_⟩;clear Ka Ja Ma HB c Oa;have aI:=hall 0 (by kernel_rfl);have aJ:=hall 2 (by kernel_rfl);have aK:=hall 3 (by kernel_rfl);have aL:=hall 5 (by kernel_rfl);have aM:=hall 7 (by kernel_rfl);have aj:=hall 8 (by kernel_rfl);have ap:=hall 10 (by kernel_rfl);have aq:=hall 11 (by kernel_rfl);have aN:=hall 12 (by kernel_rfl);have ar:=hall 13 (by kernel_rfl);have au:=hall 14 (by kernel_rfl);have aO:=hall 15 (by kernel_rfl);subst ha;obtain rfl:=Q_X11_ aq;simp only [qan_,aI,aJ,aK,aL,aM,aj,ap,aq,aN,ar,au,aO,if_true,Act.put,List.setIfInBounds_toArray,List.set_cons_zero,List.set_cons_succ];have Oa:=D Q_HO688;clear Q_HO688;clear Q_BK679;clear Q_BK680;have Ma:=D Q_BK691;clear Q_BK691;clear Q_HI684;have HB:=D Q_HB;clear Q_HB;clear Q_HI684_e3;clear Q_HI684_e5;clear Q_HI684_e7;have Og:=D (Q_HO716 aj);clear Q_HO716;have HA_HO716:=D (Q_HA_HO716 aj);clear Q_HA_HO716;have c:=D (Q_HI684_e10 ap);clear Q_HI684_e10;have Ka:=D (Q_BK679_e13 ar);clear Q_BK679_e13;have Ja:=D (Q_BK680_e14 au);clear Q_BK680_e14;clear hall aI aJ aK aL aM aj ap aq aN ar au aO;obtain ⟨Jn,aP⟩:=HA_HO716.out;clear HA_HO716;(try dsimp only at aP);subst aP
   try go_wp2_with (first|((with_reducible refine gst_ 32 rfl ?_);refine sa32_ ?_)|((with_reducible refine gld_ 32 rfl ?_);refine la32_ ?_))
   refine bodyPost_ret (results_list (rs:=[.cell 2 26,.cell 3 32,.tmp 4]) rfl (by simp) (.cell Oe 26 #[I L Jb,Y Ub Ua.length Xb] (0,0) _ rfl (pk_ Ka.out) Try.underlying26 rfl (by kernel_rfl) (.cell Jc 32 #[I L Mc,I L Oc,I L Uc,I L Xc,I L Md,I L Od,I L Xd,I L Ke,I L Me,I L Ue,I L Xe,I L Jf,I L Kf,I L Mf] (0,0) _ rfl (pk_ Ja.out) Try.underlying32 rfl (by kernel_rfl) (.tmp .nil)))) rfl ?_;exact ⟨_,er_,by (with_reducible repeat (first|apply Kd.R_alloc|apply Kd.R_drewN|apply Kd.R_drew));exact Oa.out,pT61_ HB.out⟩
  ·rw [if_neg c9] at H
   exact absurd H (by simp)
 ·rw [if_neg c8] at H
  exact absurd H (by simp)
def spec_TableFind.j0:Nat→Bool→Int→List (S52)→Int→Int→Int→Int→Int→Int→Int→Int→Int→Int→Int→Int→Int→Int→Option (Int×Bool)
 | 0,_,_,_,_,_,_,_,_,_,_,_,_,_,_,_,_,_=>none
 | k+1,x14,b,a,c,d,e,g,h,i,j,l,m,n,o,p,q,r=>if x14=true then (some (0,false)) else ((spec_l11Place.f k b a c d e g h i j l m n o p q r).bind fun Ki=>(if Ki < 0 then (some (0,false)) else (if 0≤Ki then (if Ki < (a.length:Int) then (some ((qa_ a Ki).f2,true)) else (none)) else (none))))
def spec_TableFind.f (k:Nat) (a:Int) (b:List (S52)) (c d e g h i j l m n o p q r:Int):Option (Int×Bool):=(spec_TableOk.f k a b).bind fun Uj=>(if Uj=true then ((spec_FlowKeyOk.f c d e g h i j l m n o p q r).bind fun Xj=>(spec_TableFind.j0 k (!Xj) a b c d e g h i j l m n o p q r)) else (spec_TableFind.j0 k true a b c d e g h i j l m n o p q r))
theorem spec_TableFind.calls (k:Nat) (d:Int) (z:Option Addr) (A:Nat) (b:List (S52)) (g i j l m n o p q r s u v x J:Int) (K:Bool) (w:World) (ag:Kd.C k52 w z b.length b) (ah:b.length≤A) (h:spec_TableFind.f k d b g i j l m n o p q r s u v x=some (J,K)) :
  Calls Try.prog 6 #[.agg #[I L d,Y z b.length A],.agg #[I L g,I L i,I L j,I L l,I L m,I L n,I L o,I L p,I L q,I L r,I L s,I L u,I L v,I L x]] w fun e w'=>e=.returned (.tuple #[I L J,.bool K])∧Below w.heap.size w w':=by
 have hu26:=Try.underlying26
 have hu32:=Try.underlying32
 have M:=D ag
 have aa:=D ah
 clear ag ah
 have HB:=D (Below.refl w.heap.size w)
 have H:((spec_TableOk.f k d b).bind fun ab=>(if ab=true then ((spec_FlowKeyOk.f g i j l m n o p q r s u v x).bind fun O=>(spec_TableFind.j0 k (!O) d b g i j l m n o p q r s u v x)) else (spec_TableFind.j0 k true d b g i j l m n o p q r s u v x)))=some (J,K):=h
 clear h
 have ac:=D H
 clear H
 go_enter Try.func6,Try.ntmps6
 go_upto_region 1 with (first|((with_reducible refine gld_ 3 rfl ?_);refine lc3_ ?_)|((with_reducible refine gst_ 32 rfl ?_);refine sa32_ ?_)|((with_reducible refine gld_ 32 rfl ?_);refine la32_ ?_)|((with_reducible refine qg_ (N:=2) rfl ?_);refine bx_ (N:=2) (cs:=#[I L d,Y z b.length A]) (t:=26) ?_;intro E hg w4 hbox hb;have n_:=an_ (qc_ (pB_ HB.out) hb)<|an_ (hbox)<|an_ (bg_ hg (pB_ HB.out):w.heap.size≤E)<|D (bg_ hg (pB_ HB.out):w.heap.size≤E);clear HB;obtain ⟨HB,a,aL,aM⟩:=n_;clear hb hbox hg)|((with_reducible refine qg_ (N:=3) rfl ?_);refine bx_ (N:=3) (cs:=#[I L g,I L i,I L j,I L l,I L m,I L n,I L o,I L p,I L q,I L r,I L s,I L u,I L v,I L x]) (t:=32) ?_;intro G hg w5 hbox hb;have n_:=an_ (qb_ (pk_ a.out) hb)<|an_ (qc_ (pB_ HB.out) hb)<|an_ (hbox)<|an_ (bg_ hg (pB_ HB.out):w.heap.size≤G)<|an_ (bg_ hg (pB_ HB.out):w.heap.size≤G)<|an_ (nl_ hg (pk_ a.out):E≠G)<|D (by rw [hg];exact Nat.ne_of_gt (qz_ (pk_ a.out)):G≠E);clear a HB;obtain ⟨a,HB,c,aO,aP,P,T⟩:=n_;clear hb hbox hg))
 (try simp only [Act.put,List.setIfInBounds_toArray,List.set_cons_zero,List.set_cons_succ])
 go_cut [14] (fun v14 wc=>∃ (kq:Nat) (U:Bool),v14=.bool U∧Aside0 (spec_TableFind.j0 kq U d b g i j l m n o p q r s u v x=some (J,K))∧Aside0 (kq≤k)∧Aside0 (wc.heap[E]?=some (.cells #[I L d,(Y z b.length A)] 26 (0,0)))∧Aside0 (wc.heap[G]?=some (.cells #[I L g,I L i,I L j,I L l,I L m,I L n,I L o,I L p,I L q,I L r,I L s,I L u,I L v,I L x] 32 (0,0)))∧Aside0 (Below w.heap.size w wc))
 case first =>
  have H:=ac.out;clear ac;obtain ⟨ab,ai,H⟩:=bs_.mp H;(try dsimp only at H);have A6:=D ai;clear ai
  by_cases c7:ab=true
  ·subst c7
   rw [if_pos rfl] at H;obtain ⟨O,ak,H⟩:=bs_.mp H;(try dsimp only at H);have A8:=D ak;clear ak;have H':=D H;clear H;(try have:=P.out);(try have:=T.out);have aG:=ql_ a.out
   go_wp2_with (first|((with_reducible refine gld_ 3 rfl ?_);refine lc3_ ?_)|((with_reducible refine gst_ 32 rfl ?_);refine sa32_ ?_)|((with_reducible refine gld_ 32 rfl ?_);refine la32_ ?_)|((with_reducible refine qd_ (f:=17) rfl ?_);refine qk_ (some 8) rfl rfl Try.func17 (by kernel_rfl) rfl #[.agg #[I L d,Y z b.length A]] rfl Z12 ?_;(with_reducible refine (spec_TableOk.calls k d _ _ b true _ ?side1 ?side2 A6.out).mono ?_);(case side1=>exact pC_ (Kd.C_below M.out HB.out));(case side2=>exact aa.out);rintro e aQ ⟨rfl,hb⟩;refine ⟨_,rfl,?_⟩;have n_:=an_ (qb_ (pk_ a.out) hb)<|an_ (qb_ (pk_ c.out) hb)<|D (qc_ (pB_ HB.out) hb);clear a c HB;obtain ⟨a,c,HB⟩:=n_;(try clear hb))|(go_at_call 18;(with_reducible refine (spec_FlowKeyOk.calls g i j l m n o p q r s u v x O _ A8.out).mono ?_);rintro e aR ⟨rfl,hb⟩;have n_:=an_ (qb_ (pk_ a.out) hb)<|an_ (qb_ (pk_ c.out) hb)<|D (qc_ (pB_ HB.out) hb);clear a c HB;obtain ⟨a,c,HB⟩:=n_;(try clear hb)))
   go_meet
   case rel=>exact ⟨_,(!O),Z35,H',⟨by first | omega | exact Nat.le_refl _⟩,⟨pk_ a.out⟩,⟨pk_ c.out⟩,⟨pB_ HB.out⟩⟩
  ·replace c7:=Bool.eq_false_iff.mpr c7
   subst c7;rw [if_neg (show ¬ (false=true) by decide)] at H;have H':=D H;clear H;(try have:=P.out);(try have:=T.out);have aH:=ql_ a.out
   go_wp2_with (first|((with_reducible refine gld_ 3 rfl ?_);refine lc3_ ?_)|((with_reducible refine gst_ 32 rfl ?_);refine sa32_ ?_)|((with_reducible refine gld_ 32 rfl ?_);refine la32_ ?_)|((with_reducible refine qd_ (f:=17) rfl ?_);refine qk_ (some 8) rfl rfl Try.func17 (by kernel_rfl) rfl #[.agg #[I L d,Y z b.length A]] rfl Z12 ?_;(with_reducible refine (spec_TableOk.calls k d _ _ b false _ ?side1 ?side2 A6.out).mono ?_);(case side1=>exact pC_ (Kd.C_below M.out HB.out));(case side2=>exact aa.out);rintro e aS ⟨rfl,hb⟩;refine ⟨_,rfl,?_⟩;have n_:=an_ (qb_ (pk_ a.out) hb)<|an_ (qb_ (pk_ c.out) hb)<|D (qc_ (pB_ HB.out) hb);clear a c HB;obtain ⟨a,c,HB⟩:=n_;(try clear hb)))
   go_meet
   case rel=>exact ⟨_,(true),Z35,H',⟨by first | omega | exact Nat.le_refl _⟩,⟨pk_ a.out⟩,⟨pk_ c.out⟩,⟨pB_ HB.out⟩⟩
 case rest =>
  clear ac
  (try clear c1);(try clear p2);(try clear c6);(try clear c7);(try clear c9);(try clear aV);(try clear aG);skip;(try clear aH)
  obtain ⟨kq,U,rfl,HA,aW,a,c,HB⟩:=hcut
  cases kq with
  | zero=>exact absurd HA.out (by simp [spec_TableFind.j0])
  | succ kj2 =>
   have H:=HA.out;clear HA;simp only [spec_TableFind.j0] at H
   by_cases W:U=true
   ·subst W
    rw [if_pos rfl] at H;simp only [Option.some.injEq,Prod.mk.injEq] at H;obtain ⟨rfl,rfl⟩:=H
    go_wp2_with (first|((with_reducible refine gld_ 3 rfl ?_);refine lc3_ ?_)|((with_reducible refine gst_ 32 rfl ?_);refine sa32_ ?_)|((with_reducible refine gld_ 32 rfl ?_);refine la32_ ?_))
    go_ret2;exact ⟨er_,pB_ HB.out⟩
   ·replace W:=Bool.eq_false_iff.mpr W
    subst W;rw [if_neg (show ¬ (false=true) by decide)] at H;obtain ⟨y,al,H⟩:=bs_.mp H;(try dsimp only at H);have aI:=D al;clear al;have am:=D H;clear H;(try have:=P.out);(try have:=T.out);have aX:=ql_ a.out
    go_upto_if 19 with (first|((with_reducible refine gld_ 3 rfl ?_);refine lc3_ ?_)|((with_reducible refine gst_ 32 rfl ?_);refine sa32_ ?_)|((with_reducible refine gld_ 32 rfl ?_);refine la32_ ?_)|((with_reducible refine qd_ (f:=19) rfl ?_);refine qk_ (some 17) rfl rfl Try.func19 (by kernel_rfl) rfl #[.agg #[I L d,Y z b.length A],.agg #[I L g,I L i,I L j,I L l,I L m,I L n,I L o,I L p,I L q,I L r,I L s,I L u,I L v,I L x]] rfl Z12 ?_;(with_reducible refine (spec_l11Place.calls kj2 d _ _ b g i j l m n o p q r s u v x y _ ?side1 ?side2 aI.out).mono ?_);(case side1=>exact pC_ (Kd.C_below M.out HB.out));(case side2=>exact aa.out);rintro e aY ⟨rfl,hb⟩;refine ⟨_,rfl,?_⟩;have n_:=an_ (qb_ (pk_ a.out) hb)<|an_ (qb_ (pk_ c.out) hb)<|D (qc_ (pB_ HB.out) hb);clear a c HB;obtain ⟨a,c,HB⟩:=n_;(try clear hb)))
    have H:=am.out;clear am
    by_cases B:y < 0
    ·rw [if_pos B] at H
     have ad:decide (y < 0)=true:=decide_eq_true B;clear B;refine rw_ ad ?_;simp only [Option.some.injEq,Prod.mk.injEq] at H;obtain ⟨rfl,rfl⟩:=H
     go_wp2_with (first|((with_reducible refine gld_ 3 rfl ?_);refine lc3_ ?_)|((with_reducible refine gst_ 32 rfl ?_);refine sa32_ ?_)|((with_reducible refine gld_ 32 rfl ?_);refine la32_ ?_))
     go_ret2;exact ⟨er_,pB_ HB.out⟩
    ·rw [if_neg B] at H
     have ad:decide (y < 0)=false:=decide_eq_false B;clear B;refine rw_ ad ?_
     by_cases X:0≤y
     ·rw [if_pos X] at H
      have aZ:decide (0≤y)=true:=decide_eq_true X;clear X
      by_cases Z:y < (b.length:Int)
      ·rw [if_pos Z] at H
       have a0:decide (y < (b.length:Int))=true:=decide_eq_true Z;clear Z;simp only [Option.some.injEq,Prod.mk.injEq] at H;obtain ⟨rfl,rfl⟩:=H;(try have:=P.out);(try have:=T.out);have a1:=ql_ a.out;have ae:0≤(y:Int):=od_ Z22;have af:y < (b.length:Int):=od_ Z22;obtain ⟨a2,aJ,an,ao,ap,aq,ar,au,av,aw,ax,ay,az,aA,aB,aC,aD,aE⟩:=at_T52 M.out y ae af;cases aJ;replace an:=rc_ HB.out an;replace ao:=rc_ HB.out ao;replace ap:=rc_ HB.out ap;replace aq:=rc_ HB.out aq;replace ar:=rc_ HB.out ar;replace au:=rc_ HB.out au;replace av:=rc_ HB.out av;replace aw:=rc_ HB.out aw;replace ax:=rc_ HB.out ax;replace ay:=rc_ HB.out ay;replace az:=rc_ HB.out az;replace aA:=rc_ HB.out aA;replace aB:=rc_ HB.out aB;replace aC:=rc_ HB.out aC;replace aD:=rc_ HB.out aD;replace aE:=rc_ HB.out aE;replace ae:=eq_true ae;replace af:=eq_true af
       go_wp2_with (first|((with_reducible refine gld_ 3 rfl ?_);refine lc3_ ?_)|((with_reducible refine gst_ 32 rfl ?_);refine sa32_ ?_)|((with_reducible refine gld_ 32 rfl ?_);refine la32_ ?_))
       go_ret2;exact ⟨er_,pB_ HB.out⟩
      ·rw [if_neg Z] at H
       exact absurd H (by simp)
     ·rw [if_neg X] at H
      exact absurd H (by simp)
def impl_within.f (a0 a1 a2:Int):Option (Bool):=if a0 ≥ a1 then (some (decide (a0≤a2))) else (some false)
theorem impl_within.calls (a0 a1 a2:Int) (r:Bool) (w:World) (h:impl_within.f a0 a1 a2=some r) :
  Calls Try.prog 25 #[I L a0,I L a1,I L a2] w fun e w'=>e=.returned (.bool r)∧Drawn0 w w':=by
 have H:(if a0 ≥ a1 then (some (decide (a0≤a2))) else (some false))=some r:=h
 clear h
 by_cases c4:a0 ≥ a1
 ·rw [if_pos c4] at H
  have a:decide (a1≤a0)=true:=decide_eq_true c4;clear c4;obtain rfl:=Option.some.inj H;go_enter Try.func25,Try.ntmps25
  go_wp2
  go_ret;exact ⟨by first | rfl | (simp;done) | (simp [*];done),by repeat (first | exact Drawn0.refl _ | apply Drawn0.step)⟩
 ·rw [if_neg c4] at H
  have a:decide (a1≤a0)=false:=decide_eq_false c4;clear c4;obtain rfl:=Option.some.inj H;go_enter Try.func25,Try.ntmps25
  go_wp2
  go_ret;exact ⟨by first | rfl | (simp;done) | (simp [*];done),by repeat (first | exact Drawn0.refl _ | apply Drawn0.step)⟩
end Go.Proofs.Yteahaehbciccmaa.PFnPutDrop
