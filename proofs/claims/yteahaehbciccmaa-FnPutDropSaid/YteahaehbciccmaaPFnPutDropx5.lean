-- by a program of this session's, over the kit's words
import Derived.Test.YteahaehbciccmaaPZFnPutDrop
import Derived.Test.YteahaehbciccmaaPFnPutDropx0
import Derived.Test.YteahaehbciccmaaPFnPutDropx3
import Derived.Test.YteahaehbciccmaaPFnPutDropx4
namespace Go.Proofs.Yteahaehbciccmaa.PFnPutDrop
open Go.RowKit Go.Proofs.YteahaehbciccmaaW.PrintWords Go.Proofs.YteahaehbciccmaaW.PrintLast Go.Proofs.YteahaehbciccmaaW.PrintMore Go.Proofs.YteahaehbciccmaaV Go.Proofs.Yteahaehbciccmaa.ZFnPutDrop
open Go.Value renaming int → I, slice → Y
open Go.IntKind renaming i64 → L
open Aside0 renaming mk → D
open Option renaming bind_eq_some_iff → bs_
attribute [local go_sem] qad_ qab_ qak_ qaj_ q4_ q3_ qac_ qaa_
set_option linter.unusedVariables false
set_option linter.unusedSimpArgs false
set_option maxHeartbeats 8000000
set_option maxRecDepth 100000
def spec_l11Bytes.f (l a m n o p q r s t u v w x:Int):Option (List Int):=(some (([(l) % 256,(a) % 256]:List Int):List Int)).bind fun b=>((spec_AddrBytes.f a m n o p).bind fun c=>(if b.length+c.length < 140737488355328 then ((some (b ++ c:List Int)).bind fun d=>((spec_AddrBytes.f q r s t u).bind fun e=>(if d.length+e.length < 140737488355328 then ((some (d ++ e:List Int)).bind fun g=>(if g.length < 140737488355328 then ((some (g ++ [(v) % 256]:List Int)).bind fun h=>((spec_Put16.f w).bind fun i=>(if h.length+i.length < 140737488355328 then ((some (h ++ i:List Int)).bind fun j=>((spec_Put16.f x).bind fun k=>(if j.length+k.length < 140737488355328 then (some (j ++ k)) else (none)))) else (none)))) else (none))) else (none)))) else (none)))
def spec_l11Bytes.T2:Bool×List (List Nat×List Nat):=(true,[([],[]),([],[]),([1],[1]),([2],[2]),([3],[3]),([0,4,4],[0,4]),([],[]),([6],[6]),([7],[7]),([8,5],[8]),([5,9,9],[5,9]),([10,10,0,1,2,3,4,5,6,7,8,9,10],[0,10])])
def spec_l11Bytes.B2:List Nat:=[0,0,2,6,14,31,0,64,192,511,1023,2047]
theorem spec_l11Bytes.tab2:rtab .any (opsOf Try.f56 2)=spec_l11Bytes.T2:=by kernel_rfl
theorem spec_l11Bytes.bits2:q8_ spec_l11Bytes.T2.2 spec_l11Bytes.B2=true:=by kernel_rfl
def spec_l11Bytes.T4:Bool×List (List Nat×List Nat):=(true,[([],[]),([],[]),([1],[1]),([2],[2]),([3],[3]),([0,4,4],[0,4]),([],[]),([6],[6]),([7],[7]),([8,5],[8]),([5,9,9],[5,9]),([10,10,0,1,2,3,4,5,6,7,8,9,10],[10])])
def spec_l11Bytes.B4:List Nat:=[0,0,2,6,14,31,0,64,192,511,1023,2047]
theorem spec_l11Bytes.tab4:rtab .any (opsOf Try.f56 4)=spec_l11Bytes.T4:=by kernel_rfl
theorem spec_l11Bytes.bits4:q8_ spec_l11Bytes.T4.2 spec_l11Bytes.B4=true:=by kernel_rfl
theorem spec_l11Bytes.calls (m g x y z A p q s u v k l j:Int) (r:List Int) (w:World) (h:spec_l11Bytes.f m g x y z A p q s u v k l j=some r) :
  Calls Try.prog 56 #[.agg #[I L m,I L g,I L x,I L y,I L z,I L A,I L p,I L q,I L s,I L u,I L v,I L k,I L l,I L j]] w fun e w'=>∃ W:Value,e=.returned (W)∧Kd.R (Kd.int .u8) 5 w' w.heap.size (fun _=>True) W r∧Below w.heap.size w w':=by
 have hu32:=Try.underlying32
 have hu28:=Try.underlying28
 have HB:=D (Below.refl w.heap.size w)
 have H:((some (([(m) % 256,(g) % 256]:List Int):List Int)).bind fun B=>((spec_AddrBytes.f g x y z A).bind fun Kb=>(if B.length+Kb.length < 140737488355328 then ((some (B ++ Kb:List Int)).bind fun o=>((spec_AddrBytes.f p q s u v).bind fun Jb=>(if o.length+Jb.length < 140737488355328 then ((some (o ++ Jb:List Int)).bind fun i=>(if i.length < 140737488355328 then ((some (i ++ [(k) % 256]:List Int)).bind fun c=>((spec_Put16.f l).bind fun Ua=>(if c.length+Ua.length < 140737488355328 then ((some (c ++ Ua:List Int)).bind fun a=>((spec_Put16.f j).bind fun Xa=>(if a.length+Xa.length < 140737488355328 then (some (a ++ Xa)) else (none)))) else (none)))) else (none))) else (none)))) else (none))))=some r:=h
 clear h
 obtain ⟨B,E⟩:∃ y_:List Int,y_=(([(m) % 256,(g) % 256]:List Int)):=⟨_,rfl⟩
 replace H:((spec_AddrBytes.f g x y z A).bind fun Kb=>(if B.length+Kb.length < 140737488355328 then ((some (B ++ Kb:List Int)).bind fun o=>((spec_AddrBytes.f p q s u v).bind fun Jb=>(if o.length+Jb.length < 140737488355328 then ((some (o ++ Jb:List Int)).bind fun i=>(if i.length < 140737488355328 then ((some (i ++ [(k) % 256]:List Int)).bind fun c=>((spec_Put16.f l).bind fun Ua=>(if c.length+Ua.length < 140737488355328 then ((some (c ++ Ua:List Int)).bind fun a=>((spec_Put16.f j).bind fun Xa=>(if a.length+Xa.length < 140737488355328 then (some (a ++ Xa)) else (none)))) else (none)))) else (none))) else (none)))) else (none)))=some r:=by first|(rw [E];with_reducible exact H)|(have H2_:=(Option.bind_some _ _).symm.trans H;rw [E];with_reducible exact H2_)|(have H2_:=(Option.bind_some _ _).symm.trans H;with_reducible exact H2_)|with_reducible exact H|(rw [E];exact H)|exact H
 have X:=D E
 clear E
 obtain ⟨Kb,Z,H⟩:=bs_.mp H
 (try dsimp only at H)
 have A2:=D Z
 clear Z
 by_cases c3:B.length+Kb.length < 140737488355328
 ·rw [if_pos c3] at H
  have ai:=D c3;clear c3;obtain ⟨o,G⟩:∃ y_:List Int,y_=(B ++ Kb):=⟨_,rfl⟩
  replace H:((spec_AddrBytes.f p q s u v).bind fun Jb=>(if o.length+Jb.length < 140737488355328 then ((some (o ++ Jb:List Int)).bind fun i=>(if i.length < 140737488355328 then ((some (i ++ [(k) % 256]:List Int)).bind fun c=>((spec_Put16.f l).bind fun Ua=>(if c.length+Ua.length < 140737488355328 then ((some (c ++ Ua:List Int)).bind fun a=>((spec_Put16.f j).bind fun Xa=>(if a.length+Xa.length < 140737488355328 then (some (a ++ Xa)) else (none)))) else (none)))) else (none))) else (none)))=some r:=by first|(rw [G];with_reducible exact H)|(have H2_:=(Option.bind_some _ _).symm.trans H;rw [G];with_reducible exact H2_)|(have H2_:=(Option.bind_some _ _).symm.trans H;with_reducible exact H2_)|with_reducible exact H|(rw [G];exact H)|exact H
  have aj:=D G;clear G;obtain ⟨Jb,aa,H⟩:=bs_.mp H;(try dsimp only at H);have A4:=D aa;clear aa
  by_cases c5:o.length+Jb.length < 140737488355328
  ·rw [if_pos c5] at H
   have al:=D c5;clear c5;obtain ⟨i,J⟩:∃ y_:List Int,y_=(o ++ Jb):=⟨_,rfl⟩
   replace H:(if i.length < 140737488355328 then ((some (i ++ [(k) % 256]:List Int)).bind fun c=>((spec_Put16.f l).bind fun Ua=>(if c.length+Ua.length < 140737488355328 then ((some (c ++ Ua:List Int)).bind fun a=>((spec_Put16.f j).bind fun Xa=>(if a.length+Xa.length < 140737488355328 then (some (a ++ Xa)) else (none)))) else (none)))) else (none))=some r:=by first|(rw [J];with_reducible exact H)|(have H2_:=(Option.bind_some _ _).symm.trans H;rw [J];with_reducible exact H2_)|(have H2_:=(Option.bind_some _ _).symm.trans H;with_reducible exact H2_)|with_reducible exact H|(rw [J];exact H)|exact H
   have am:=D J;clear J
   by_cases c6:i.length < 140737488355328
   ·rw [if_pos c6] at H
    have an:=D c6;clear c6;obtain ⟨c,O⟩:∃ y_:List Int,y_=(i ++ [(k) % 256]):=⟨_,rfl⟩
    replace H:((spec_Put16.f l).bind fun Ua=>(if c.length+Ua.length < 140737488355328 then ((some (c ++ Ua:List Int)).bind fun a=>((spec_Put16.f j).bind fun Xa=>(if a.length+Xa.length < 140737488355328 then (some (a ++ Xa)) else (none)))) else (none)))=some r:=by first|(rw [O];with_reducible exact H)|(have H2_:=(Option.bind_some _ _).symm.trans H;rw [O];with_reducible exact H2_)|(have H2_:=(Option.bind_some _ _).symm.trans H;with_reducible exact H2_)|with_reducible exact H|(rw [O];exact H)|exact H
    have ao:=D O;clear O;obtain ⟨Ua,ab,H⟩:=bs_.mp H;(try dsimp only at H);have A7:=D ab;clear ab
    by_cases c8:c.length+Ua.length < 140737488355328
    ·rw [if_pos c8] at H
     have aq:=D c8;clear c8;obtain ⟨a,P⟩:∃ y_:List Int,y_=(c ++ Ua):=⟨_,rfl⟩
     replace H:((spec_Put16.f j).bind fun Xa=>(if a.length+Xa.length < 140737488355328 then (some (a ++ Xa)) else (none)))=some r:=by first|(rw [P];with_reducible exact H)|(have H2_:=(Option.bind_some _ _).symm.trans H;rw [P];with_reducible exact H2_)|(have H2_:=(Option.bind_some _ _).symm.trans H;with_reducible exact H2_)|with_reducible exact H|(rw [P];exact H)|exact H
     have ar:=D P;clear P;obtain ⟨Xa,ac,H⟩:=bs_.mp H;(try dsimp only at H);have A9:=D ac;clear ac
     by_cases c10:a.length+Xa.length < 140737488355328
     ·rw [if_pos c10] at H
      have av:=D c10;clear c10;obtain ⟨aw,T⟩:∃ y_:List Int,y_=(a ++ Xa):=⟨_,rfl⟩
      replace H:(some aw)=some r:=by first|(rw [T];with_reducible exact H)|(have H2_:=(Option.bind_some _ _).symm.trans H;rw [T];with_reducible exact H2_)|(have H2_:=(Option.bind_some _ _).symm.trans H;with_reducible exact H2_)|with_reducible exact H|(rw [T];exact H)|exact H
      have ax:=D T;clear T;obtain rfl:=Option.some.inj H;go_enter Try.func56,Try.ntmps56
      try go_wp2_with (first|((with_reducible refine gld_ 28 rfl ?_);(first|refine la28o1_ ?_|refine la28o6_ ?_))|((with_reducible refine gld_ 3 rfl ?_);refine lc3_ ?_)|((with_reducible refine gst_ 32 rfl ?_);refine sa32_ ?_)|((with_reducible refine gld_ 32 rfl ?_);refine la32_ ?_)|((with_reducible refine qg_ (N:=1) rfl ?_);refine bx_ (N:=1) (cs:=#[I L m,I L g,I L x,I L y,I L z,I L A,I L p,I L q,I L s,I L u,I L v,I L k,I L l,I L j]) (t:=32) ?_;intro Ka hg aA hbox hb;have n_:=an_ (qc_ (pB_ HB.out) hb)<|an_ (hbox)<|an_ (bg_ hg (pB_ HB.out):w.heap.size≤Ka)<|D (bg_ hg (pB_ HB.out):w.heap.size≤Ka);clear HB;obtain ⟨HB,Ja,Mf,Of⟩:=n_;clear hb hbox hg)|((with_reducible refine qg_ (N:=12) rfl ?_);refine Kd.R_lit (Kd.int .u8) _ 5 ?hg (N:=12) ?hd (xs:=([(m) % 256,(g) % 256]:List Int)) (inner:=[.int .u8 ((m) % 256),.int .u8 ((g) % 256)]) (ok:=fun _=>True) (okp:=fun _=>True) ?hr ?hp (fun _ hk=>hk) trivial (Below.refl _ _) (Nat.le_refl _) (by simp) ?_;(case hd=>rfl);(case hg=>rfl);(case hr=>first|(go_simp;done)|(go_simp;rfl));(case hp=>exact (Reps.one (show Kd.M (Kd.int .u8) _ _ _ ((m) % 256) [.int .u8 ((m) % 256)] from rfl) (Reps.one (show Kd.M (Kd.int .u8) _ _ _ ((g) % 256) [.int .u8 ((g) % 256)] from rfl) (Reps.none _ _))));intro Je ay U hb hg_ hnew_;clear hg_ hnew_;(first|rw [← X.out] at U|(simp only [Int.reduceToNat] at U;rw [← X.out] at U));have n_:=an_ (Kd.R_lower U (qh_ (pB_ HB.out)))<|an_ (qb_ (pk_ Ja.out) hb)<|D (qc_ (pB_ HB.out) hb);clear Ja HB;obtain ⟨Xb,Ja,HB⟩:=n_;clear hb U))
      have n_:=an_ (Kd.R_drew Xb.out)<|an_ (qt_ Ja.out)<|D (qr_ HB.out)
      clear Xb Ja HB;obtain ⟨Xb,Ja,HB⟩:=n_;refine qaw_ (n:=12) (S:=fun w'=>Bv w' Ka #[I L m,I L g,I L x,I L y,I L z,I L A,I L p,I L q,I L s,I L u,I L v,I L k,I L l,I L j]) (ds:=[]) (bz 12 0) (by kernel_rfl) rfl (by kernel_rfl) (bv_ Ja.out) (fun hHeld=>?_);refine q6_ spec_l11Bytes.tab2 spec_l11Bytes.bits2 (fun HT_ HW_=>?_);generalize ay.drew=aC at Xb Ja HB hHeld ⊢;refine pb_ 0 ?_;refine pb_ 1 ?_;refine pb_ 2 ?_;refine pb_ 6 ?_;refine pb_ 7 ?_;refine tb_ 3 rfl rfl hHeld (fun _ h_=>by first|exact lw28o0_ rfl rfl h_ rfl rfl rfl rfl rfl|exact lw28o1_ rfl rfl h_ rfl rfl rfl rfl rfl|exact lw28o5_ rfl rfl h_ rfl rfl rfl rfl rfl|exact lw28o6_ rfl rfl h_ rfl rfl rfl rfl rfl|exact lw3_ rfl rfl h_ rfl) ?_;refine tb_ 8 rfl rfl hHeld (fun _ h_=>by first|exact lw28o0_ rfl rfl h_ rfl rfl rfl rfl rfl|exact lw28o1_ rfl rfl h_ rfl rfl rfl rfl rfl|exact lw28o5_ rfl rfl h_ rfl rfl rfl rfl rfl|exact lw28o6_ rfl rfl h_ rfl rfl rfl rfl rfl|exact lw3_ rfl rfl h_ rfl) ?_;refine oa_ 4 17 12 479 HT_ (fun K hK=>?_);refine goes_ Try.func65 (by kernel_rfl) rfl #[.agg #[I L g,I L x,I L y,I L z,I L A]] (by rfl) rfl rfl Z12 ?_;with_reducible refine (spec_AddrBytes.calls g x y z A Kb _ A2.out).mono ?_
      rintro e aD ⟨Mk,rfl,d,hb⟩;refine ⟨_,rfl,?_⟩
      have n_:=an_ (Kd.R_elder' (pR_ Xb.out) (Kd.R_base d) hb)<|an_ (Kd.R_lower (nw_ d (pR_ Xb.out)) (qh_ (pB_ HB.out)))<|an_ (qb_ (pk_ Ja.out) hb)<|D (qc_ (pB_ HB.out) hb)
      clear Xb Ja HB;obtain ⟨Xb,Ma,Ja,HB⟩:=n_;obtain ⟨Ob,Ub,ad⟩:=Kd.R_slice Ma.out;(first|subst ad|obtain ⟨rfl,rfl⟩:=qas_ ad);refine hK.out _ _ (bv_ Ja.out) (fun hHeld=>?_);clear hK K;refine nx_ (N:=some 17) ?_;refine oa_ 5 18 12 511 HT_ (fun K hK=>?_);refine Kd.R_append_rows_step (Kd.int .u8) (w0:=w) w.heap.size (by rfl) (.tmp 13) (.tmp 17) 22 5 (.int .u8 0) 1 rfl Try.underlying22 info5 rfl (by decide) (by omega) Je B Kb _ _ _ (fun k_=>some k_≠(Y Ob Kb.length Ub:Value).ownBlock) (fun _=>False) rfl rfl ?aO ?aR (fun _ _ h=>h) (fun _ h=>h.elim) ?aF ?aB ?aS ?aL ?_;(case aR=>exact pC_ ((Kd.R_reads' Ma.out).2.2));(case aB=>exact (pB_ HB.out));(case aF=>exact (fun k_ hk=>Kd.fresh' (Kd.R_lt (pR_ Ma.out)) k_ hk));(case aO=>exact (pR_ (Kd.R_mono Xb.out (fun _ hk=>hk.2))));(case aS=>exact (qh_ (pB_ HB.out)));(case aL=>have:=ai.out;omega);intro Ke aE ho hb hg hat;rw [← aj.out] at ho
      have n_:=an_ (qv_ (pk_ Ja.out) hg (Kd.R_ne Xb.out Ja.out (by decide)))<|an_ (Kd.R_after (ok:=(fun _=>True)) (pR_ Ma.out) hg hat)<|an_ (hb)<|D (ho)
      clear Ja Ma HB Xb;obtain ⟨Ja,Ma,HB,Oc⟩:=n_;clear ho hb hg hat;refine hK.out _ _ (bv_ Ja.out) (fun hHeld=>?_);clear hK K;refine nx_ (N:=some 18) ?_;refine oa_ 9 22 12 1023 HT_ (fun K hK=>?_);refine goes_ Try.func65 (by kernel_rfl) rfl #[.agg #[I L p,I L q,I L s,I L u,I L v]] (by rfl) rfl rfl Z12 ?_;with_reducible refine (spec_AddrBytes.calls p q s u v Jb _ A4.out).mono ?_
      rintro e aG ⟨Ok,rfl,d,hb⟩;refine ⟨_,rfl,?_⟩
      have n_:=an_ (Kd.R_elder' (pR_ Ma.out) (Kd.R_base d) hb)<|an_ (Kd.R_elder' (pR_ Oc.out) (Kd.R_base d) hb)<|an_ (Kd.R_lower (nw_ (nw_ d (pR_ Ma.out)) (pR_ Oc.out)) (qh_ (pB_ HB.out)))<|an_ (qb_ (pk_ Ja.out) hb)<|D (qc_ (pB_ HB.out) hb)
      clear Ma Oc Ja HB;obtain ⟨Ma,Oc,Oa,Ja,HB⟩:=n_;obtain ⟨Jc,Kc,ae⟩:=Kd.R_slice Oa.out;(first|subst ae|obtain ⟨rfl,rfl⟩:=qas_ ae);refine hK.out _ _ (bv_ Ja.out) (fun hHeld=>?_);clear hK K;refine nx_ (N:=some 22) ?_;refine oa_ 10 23 12 2047 HT_ (fun K hK=>?_);refine Kd.R_append_rows_step (Kd.int .u8) (w0:=w) w.heap.size (by rfl) (.tmp 18) (.tmp 22) 22 5 (.int .u8 0) 1 rfl Try.underlying22 info5 rfl (by decide) (by omega) Ke o Jb _ _ _ (fun k_=>some k_≠(Y Ob Kb.length Ub:Value).ownBlock∧some k_≠(Y Jc Jb.length Kc:Value).ownBlock) (fun _=>False) rfl rfl ?aO ?aR (fun _ _ h=>h) (fun _ h=>h.elim) ?aF ?aB ?aS ?aL ?_;(case aR=>exact pC_ ((Kd.R_reads' Oa.out).2.2));(case aB=>exact (pB_ HB.out));(case aF=>exact (fun k_ hk=>⟨Kd.fresh' (Kd.R_lt (pR_ Ma.out)) k_ hk,Kd.fresh' (Kd.R_lt (pR_ Oa.out)) k_ hk⟩));(case aO=>exact (pR_ Oc.out));(case aS=>exact (qh_ (pB_ HB.out)));(case aL=>have:=al.out;omega);intro Me aH ho hb hg hat;rw [← am.out] at ho
      have n_:=an_ (qv_ (pk_ Ja.out) hg (Kd.R_ne Oc.out Ja.out (by decide)))<|an_ (Kd.R_after (ok:=(fun k_=>some k_≠(Y Jc Jb.length Kc:Value).ownBlock)) (pR_ (Kd.R_mono Ma.out (fun _ hk=>⟨hk.2,hk.1.2⟩))) hg hat)<|an_ (Kd.R_after (ok:=(fun k_=>some k_≠(Y Ob Kb.length Ub:Value).ownBlock)) (pR_ (Kd.R_mono Oa.out (fun _ hk=>⟨hk.1.2,hk.2⟩))) hg hat)<|an_ (hb)<|D (ho)
      clear Ja Ma Oa HB Oc;obtain ⟨Ja,Ma,Oa,HB,Xd⟩:=n_;clear ho hb hg hat;refine hK.out _ _ (bv_ Ja.out) (fun hHeld=>?_);clear hK K;refine nx_ (N:=some 23) ?_;refine pb_ 11 ?_;refine done_ (qaq_ HT_.out (by kernel_rfl)) ?_
      try go_wp2_with (first|((with_reducible refine gld_ 28 rfl ?_);(first|refine la28o1_ ?_|refine la28o6_ ?_))|((with_reducible refine gld_ 3 rfl ?_);refine lc3_ ?_)|((with_reducible refine gst_ 32 rfl ?_);refine sa32_ ?_)|((with_reducible refine gld_ 32 rfl ?_);refine la32_ ?_)|((with_reducible refine gate_builtin (b:=.append) (xs:=#[.tmp 24,.tmp 29]) rfl ?_);at_builtin;refine Kd.R_append (Kd.int .u8) (w0:=w) w.heap.size rfl (.tmp 24) (.tmp 29) 22 5 (.int .u8 0) 1 rfl Try.underlying22 info5 rfl (by decide) (by omega) Me i ((k) % 256) [.int .u8 ((k) % 256)] (fun k_=>some k_≠(Y Ob Kb.length Ub:Value).ownBlock∧some k_≠(Y Jc Jb.length Kc:Value).ownBlock) (fun _=>False) rfl rfl ?aP (fun _ hk=>hk.elim) ?aF ?aO ?aB ?aS ?aL ?_;(case aP=>exact rfl);(case aB=>exact (pB_ HB.out));(case aF=>exact (fun k_ hk=>⟨Kd.fresh' (Kd.R_lt (pR_ Ma.out)) k_ hk,Kd.fresh' (Kd.R_lt (pR_ Oa.out)) k_ hk⟩));(case aO=>exact (pR_ Xd.out));(case aS=>exact (qh_ (pB_ HB.out)));(case aL=>have:=an.out;omega);intro Oe az ho hb hg hat;rw [← ao.out] at ho;have n_:=an_ (qv_ (pk_ Ja.out) hg (Kd.R_ne Xd.out Ja.out (by decide)))<|an_ (Kd.R_after (ok:=(fun k_=>some k_≠(Y Jc Jb.length Kc:Value).ownBlock)) (pR_ Ma.out) hg hat)<|an_ (Kd.R_after (ok:=(fun k_=>some k_≠(Y Ob Kb.length Ub:Value).ownBlock)) (pR_ Oa.out) hg hat)<|an_ (hb)<|D (ho);clear Ja Ma Oa HB Xd;obtain ⟨Ja,Ma,Oa,HB,Mc⟩:=n_;clear ho hb hg hat))
      have n_:=an_ (Kd.R_drew Ma.out)<|an_ (Kd.R_drew Oa.out)<|an_ (Kd.R_drew Mc.out)<|an_ (qt_ Ja.out)<|D (qr_ HB.out)
      clear Ma Oa Mc Ja HB;obtain ⟨Ma,Oa,Mc,Ja,HB⟩:=n_;refine qaw_ (n:=12) (S:=fun w'=>Bv w' Ka #[I L m,I L g,I L x,I L y,I L z,I L A,I L p,I L q,I L s,I L u,I L v,I L k,I L l,I L j]) (ds:=[]) (bz 12 0) (by kernel_rfl) rfl (by kernel_rfl) (bv_ Ja.out) (fun hHeld=>?_);refine q6_ spec_l11Bytes.tab4 spec_l11Bytes.bits4 (fun HT_ HW_=>?_);generalize az.drew=aI at Ma Oa Mc Ja HB hHeld ⊢;refine pb_ 0 ?_;refine pb_ 1 ?_;refine pb_ 2 ?_;refine pb_ 6 ?_;refine pb_ 7 ?_;refine tb_ 3 rfl rfl hHeld (fun _ h_=>by first|exact lw28o0_ rfl rfl h_ rfl rfl rfl rfl rfl|exact lw28o1_ rfl rfl h_ rfl rfl rfl rfl rfl|exact lw28o5_ rfl rfl h_ rfl rfl rfl rfl rfl|exact lw28o6_ rfl rfl h_ rfl rfl rfl rfl rfl|exact lw3_ rfl rfl h_ rfl) ?_;refine tb_ 8 rfl rfl hHeld (fun _ h_=>by first|exact lw28o0_ rfl rfl h_ rfl rfl rfl rfl rfl|exact lw28o1_ rfl rfl h_ rfl rfl rfl rfl rfl|exact lw28o5_ rfl rfl h_ rfl rfl rfl rfl rfl|exact lw28o6_ rfl rfl h_ rfl rfl rfl rfl rfl|exact lw3_ rfl rfl h_ rfl) ?_;refine oa_ 4 35 12 479 HT_ (fun K hK=>?_);refine goes_ Try.func66 (by kernel_rfl) rfl #[I L l] (by rfl) rfl rfl Z12 ?_;with_reducible refine (spec_Put16.calls l Ua _ A7.out).mono ?_
      rintro e aJ ⟨Mq,rfl,d,hb⟩;refine ⟨_,rfl,?_⟩
      have n_:=an_ (Kd.R_elder' (pR_ Ma.out) (Kd.R_base d) hb)<|an_ (Kd.R_elder' (pR_ Oa.out) (Kd.R_base d) hb)<|an_ (Kd.R_elder' (pR_ Mc.out) (Kd.R_base d) hb)<|an_ (Kd.R_lower (nw_ (nw_ (nw_ d (pR_ Ma.out)) (pR_ Oa.out)) (pR_ Mc.out)) (qh_ (pB_ HB.out)))<|an_ (qb_ (pk_ Ja.out) hb)<|D (qc_ (pB_ HB.out) hb)
      clear Ma Oa Mc Ja HB;obtain ⟨Ma,Oa,Mc,Mb,Ja,HB⟩:=n_;obtain ⟨Uc,Xc,af⟩:=Kd.R_slice Mb.out;(first|subst af|obtain ⟨rfl,rfl⟩:=qas_ af);refine hK.out _ _ (bv_ Ja.out) (fun hHeld=>?_);clear hK K;refine nx_ (N:=some 35) ?_;refine oa_ 5 36 12 511 HT_ (fun K hK=>?_);refine Kd.R_append_rows_step (Kd.int .u8) (w0:=w) w.heap.size (by rfl) (.tmp 31) (.tmp 35) 22 5 (.int .u8 0) 1 rfl Try.underlying22 info5 rfl (by decide) (by omega) Oe c Ua _ _ _ (fun k_=>some k_≠(Y Ob Kb.length Ub:Value).ownBlock∧some k_≠(Y Jc Jb.length Kc:Value).ownBlock∧some k_≠(Y Uc Ua.length Xc:Value).ownBlock) (fun _=>False) rfl rfl ?aO ?aR (fun _ _ h=>h) (fun _ h=>h.elim) ?aF ?aB ?aS ?aL ?_;(case aR=>exact pC_ ((Kd.R_reads' Mb.out).2.2));(case aB=>exact (pB_ HB.out));(case aF=>exact (fun k_ hk=>⟨Kd.fresh' (Kd.R_lt (pR_ Ma.out)) k_ hk,Kd.fresh' (Kd.R_lt (pR_ Oa.out)) k_ hk,Kd.fresh' (Kd.R_lt (pR_ Mb.out)) k_ hk⟩));(case aO=>exact (pR_ (Kd.R_mono Mc.out (fun _ hk=>⟨hk.1.1,⟨hk.1.2,hk.2⟩⟩))));(case aS=>exact (qh_ (pB_ HB.out)));(case aL=>have:=aq.out;omega);intro Ue aK ho hb hg hat;rw [← ar.out] at ho
      have n_:=an_ (qv_ (pk_ Ja.out) hg (Kd.R_ne Mc.out Ja.out (by decide)))<|an_ (Kd.R_after (ok:=(fun k_=>some k_≠(Y Jc Jb.length Kc:Value).ownBlock∧some k_≠(Y Uc Ua.length Xc:Value).ownBlock)) (pR_ (Kd.R_mono Ma.out (fun _ hk=>⟨⟨hk.1.1,hk.2⟩,hk.1.2⟩))) hg hat)<|an_ (Kd.R_after (ok:=(fun k_=>some k_≠(Y Ob Kb.length Ub:Value).ownBlock∧some k_≠(Y Uc Ua.length Xc:Value).ownBlock)) (pR_ (Kd.R_mono Oa.out (fun _ hk=>⟨⟨hk.1.1,hk.2⟩,hk.1.2⟩))) hg hat)<|an_ (Kd.R_after (ok:=(fun k_=>some k_≠(Y Ob Kb.length Ub:Value).ownBlock∧some k_≠(Y Jc Jb.length Kc:Value).ownBlock)) (pR_ (Kd.R_mono Mb.out (fun _ hk=>⟨⟨hk.1.1.2,hk.1.2⟩,hk.2⟩))) hg hat)<|an_ (hb)<|D (ho)
      clear Ja Ma Oa Mb HB Mc;obtain ⟨Ja,Ma,Oa,Mb,HB,Jd⟩:=n_;clear ho hb hg hat;refine hK.out _ _ (bv_ Ja.out) (fun hHeld=>?_);clear hK K;refine nx_ (N:=some 36) ?_;refine oa_ 9 40 12 1023 HT_ (fun K hK=>?_);refine goes_ Try.func66 (by kernel_rfl) rfl #[I L j] (by rfl) rfl rfl Z12 ?_;with_reducible refine (spec_Put16.calls j Xa _ A9.out).mono ?_
      rintro e aM ⟨Oq,rfl,d,hb⟩;refine ⟨_,rfl,?_⟩
      have n_:=an_ (Kd.R_elder' (pR_ Ma.out) (Kd.R_base d) hb)<|an_ (Kd.R_elder' (pR_ Oa.out) (Kd.R_base d) hb)<|an_ (Kd.R_elder' (pR_ Mb.out) (Kd.R_base d) hb)<|an_ (Kd.R_elder' (pR_ Jd.out) (Kd.R_base d) hb)<|an_ (Kd.R_lower (nw_ (nw_ (nw_ (nw_ d (pR_ Ma.out)) (pR_ Oa.out)) (pR_ Mb.out)) (pR_ Jd.out)) (qh_ (pB_ HB.out)))<|an_ (qb_ (pk_ Ja.out) hb)<|D (qc_ (pB_ HB.out) hb)
      clear Ma Oa Mb Jd Ja HB;obtain ⟨Ma,Oa,Mb,Jd,Md,Ja,HB⟩:=n_;obtain ⟨Od,Ud,ag⟩:=Kd.R_slice Md.out;(first|subst ag|obtain ⟨rfl,rfl⟩:=qas_ ag);refine hK.out _ _ (bv_ Ja.out) (fun hHeld=>?_);clear hK K;refine nx_ (N:=some 40) ?_;refine oa_ 10 41 12 2047 HT_ (fun K hK=>?_);refine Kd.R_append_rows_step (Kd.int .u8) (w0:=w) w.heap.size (by rfl) (.tmp 36) (.tmp 40) 22 5 (.int .u8 0) 1 rfl Try.underlying22 info5 rfl (by decide) (by omega) Ue a Xa _ _ _ (fun k_=>some k_≠(Y Ob Kb.length Ub:Value).ownBlock∧some k_≠(Y Jc Jb.length Kc:Value).ownBlock∧some k_≠(Y Uc Ua.length Xc:Value).ownBlock∧some k_≠(Y Od Xa.length Ud:Value).ownBlock) (fun _=>False) rfl rfl ?aO ?aR (fun _ _ h=>h) (fun _ h=>h.elim) ?aF ?aB ?aS ?aL ?_;(case aR=>exact pC_ ((Kd.R_reads' Md.out).2.2));(case aB=>exact (pB_ HB.out));(case aF=>exact (fun k_ hk=>⟨Kd.fresh' (Kd.R_lt (pR_ Ma.out)) k_ hk,Kd.fresh' (Kd.R_lt (pR_ Oa.out)) k_ hk,Kd.fresh' (Kd.R_lt (pR_ Mb.out)) k_ hk,Kd.fresh' (Kd.R_lt (pR_ Md.out)) k_ hk⟩));(case aO=>exact (pR_ (Kd.R_mono Jd.out (fun _ hk=>⟨hk.1.1,⟨hk.1.2.1,⟨hk.1.2.2,hk.2⟩⟩⟩))));(case aS=>exact (qh_ (pB_ HB.out)));(case aL=>have:=av.out;omega);intro Uq aN ho hb hg hat;rw [← ax.out] at ho
      have n_:=an_ (qv_ (pk_ Ja.out) hg (Kd.R_ne Jd.out Ja.out (by decide)))<|an_ (Kd.R_after (ok:=(fun k_=>some k_≠(Y Jc Jb.length Kc:Value).ownBlock∧some k_≠(Y Uc Ua.length Xc:Value).ownBlock∧some k_≠(Y Od Xa.length Ud:Value).ownBlock)) (pR_ (Kd.R_mono Ma.out (fun _ hk=>⟨⟨hk.1.1.1,⟨hk.1.1.2,hk.2⟩⟩,hk.1.2⟩))) hg hat)<|an_ (Kd.R_after (ok:=(fun k_=>some k_≠(Y Ob Kb.length Ub:Value).ownBlock∧some k_≠(Y Uc Ua.length Xc:Value).ownBlock∧some k_≠(Y Od Xa.length Ud:Value).ownBlock)) (pR_ (Kd.R_mono Oa.out (fun _ hk=>⟨⟨hk.1.1.1,⟨hk.1.1.2,hk.2⟩⟩,hk.1.2⟩))) hg hat)<|an_ (Kd.R_after (ok:=(fun k_=>some k_≠(Y Ob Kb.length Ub:Value).ownBlock∧some k_≠(Y Jc Jb.length Kc:Value).ownBlock∧some k_≠(Y Od Xa.length Ud:Value).ownBlock)) (pR_ (Kd.R_mono Mb.out (fun _ hk=>⟨⟨hk.1.1.1,⟨hk.1.1.2,hk.2⟩⟩,hk.1.2⟩))) hg hat)<|an_ (Kd.R_after (ok:=(fun k_=>some k_≠(Y Ob Kb.length Ub:Value).ownBlock∧some k_≠(Y Jc Jb.length Kc:Value).ownBlock∧some k_≠(Y Uc Ua.length Xc:Value).ownBlock)) (pR_ (Kd.R_mono Md.out (fun _ hk=>⟨⟨hk.1.1.1.2,⟨hk.1.1.2,hk.1.2⟩⟩,hk.2⟩))) hg hat)<|an_ (hb)<|D (ho)
      clear Ja Ma Oa Mb Md HB Jd;obtain ⟨Ja,Ma,Oa,Mb,Md,HB,Xe⟩:=n_;clear ho hb hg hat;refine hK.out _ _ (bv_ Ja.out) (fun hHeld=>?_);clear hK K;refine nx_ (N:=some 41) ?_;refine pb_ 11 ?_;refine done_ (qaq_ HT_.out (by kernel_rfl)) ?_
      try go_wp2_with (first|((with_reducible refine gld_ 28 rfl ?_);(first|refine la28o1_ ?_|refine la28o6_ ?_))|((with_reducible refine gld_ 3 rfl ?_);refine lc3_ ?_)|((with_reducible refine gst_ 32 rfl ?_);refine sa32_ ?_)|((with_reducible refine gld_ 32 rfl ?_);refine la32_ ?_))
      go_ret;exact ⟨_,er_,by (with_reducible repeat (first|apply Kd.R_alloc|apply Kd.R_drewN|apply Kd.R_drew));exact Kd.R_mono Xe.out (fun _ hk=>trivial),pB_ HB.out⟩
     ·rw [if_neg c10] at H
      exact absurd H (by simp)
    ·rw [if_neg c8] at H
     exact absurd H (by simp)
   ·rw [if_neg c6] at H
    exact absurd H (by simp)
  ·rw [if_neg c5] at H
   exact absurd H (by simp)
 ·rw [if_neg c3] at H
  exact absurd H (by simp)
mutual
def spec_HashOf.j0:Nat→Int→Bool→Int→Int→Int→Int→Int→Int→Int→Int→Int→Int→Int→Int→Int→Int→Option (Int)
 | 0,_,_,_,_,_,_,_,_,_,_,_,_,_,_,_,_=>none
 | k+1,x0,a,b,c,d,e,g,h,i,j,l,m,n,o,p,q=>if a=true then (some (-1)) else ((spec_l11Bytes.f b c d e g h i j l m n o p q).bind fun Jf=>(spec_HashOf.l0 k x0 Jf 0))
def spec_HashOf.l0:Nat→Int→List Int→Int→Option (Int)
 | 0,_,_,_=>none
 | k+1,x5,x6,x7=>if x7 < (x6.length:Int) then (if 0≤x7 then (spec_HashOf.l0 k (Int.tmod (wrap64 ((Go.bits .xor .i64 x5 (wrap64 (rd x6 x7))) * 16777619)) 4294967296) x6 (wrap64 (x7+1))) else (none)) else (some (Go.bits .xor .i64 x5 (wrap64 (Int.tdiv x5 65536))))
end
def spec_HashOf.f (k:Nat) (a0 a b c d e g h i j l m n o p:Int):Option (Int):=if a0 < 0 then (spec_HashOf.j0 k a0 true a b c d e g h i j l m n o p) else (if a0 > 4294967295 then (spec_HashOf.j0 k a0 true a b c d e g h i j l m n o p) else ((spec_FlowKeyOk.f a b c d e g h i j l m n o p).bind fun Kf=>(spec_HashOf.j0 k a0 (!Kf) a b c d e g h i j l m n o p)))
theorem spec_HashOf.calls (k:Nat) (a0 a b c d g i j l m n o p q s r:Int) (w:World) (h:spec_HashOf.f k a0 a b c d g i j l m n o p q s=some r) :
  Calls Try.prog 45 #[I L a0,.agg #[I L a,I L b,I L c,I L d,I L g,I L i,I L j,I L l,I L m,I L n,I L o,I L p,I L q,I L s]] w fun e w'=>e=.returned (I L r)∧Below w.heap.size w w':=by
 have hu32:=Try.underlying32
 have HB:=D (Below.refl w.heap.size w)
 have H:(if a0 < 0 then (spec_HashOf.j0 k a0 true a b c d g i j l m n o p q s) else (if a0 > 4294967295 then (spec_HashOf.j0 k a0 true a b c d g i j l m n o p q s) else ((spec_FlowKeyOk.f a b c d g i j l m n o p q s).bind fun A=>(spec_HashOf.j0 k a0 (!A) a b c d g i j l m n o p q s))))=some r:=h
 clear h
 have K:=D H
 clear H
 go_enter Try.func45,Try.ntmps45
 go_upto_region 1 with (first|((with_reducible refine gst_ 32 rfl ?_);refine sa32_ ?_)|((with_reducible refine gld_ 32 rfl ?_);refine la32_ ?_)|((with_reducible refine qg_ (N:=3) rfl ?_);refine bx_ (N:=3) (cs:=#[I L a,I L b,I L c,I L d,I L g,I L i,I L j,I L l,I L m,I L n,I L o,I L p,I L q,I L s]) (t:=32) ?_;intro B hg w4 hbox hb;have n_:=an_ (qc_ (pB_ HB.out) hb)<|an_ (hbox)<|an_ (bg_ hg (pB_ HB.out):w.heap.size≤B)<|D (bg_ hg (pB_ HB.out):w.heap.size≤B);clear HB;obtain ⟨HB,u,am,an⟩:=n_;clear hb hbox hg))
 (try simp only [Act.put,List.setIfInBounds_toArray,List.set_cons_zero,List.set_cons_succ])
 go_cut [18] (fun ab wc=>∃ (kq:Nat) (E:Bool),ab=.bool E∧Aside0 (spec_HashOf.j0 kq a0 E a b c d g i j l m n o p q s=some r)∧Aside0 (kq≤k)∧Aside0 (wc.heap[B]?=some (.cells #[I L a,I L b,I L c,I L d,I L g,I L i,I L j,I L l,I L m,I L n,I L o,I L p,I L q,I L s] 32 (0,0)))∧Aside0 (Below w.heap.size w wc))
 case first =>
  have H:=K.out;clear K
  by_cases c5:a0 < 0
  ·rw [if_pos c5] at H
   have z:decide (a0 < 0)=true:=decide_eq_true c5;clear c5;refine rw_ z ?_;have H':=D H;clear H
   go_wp2_with (first|((with_reducible refine gst_ 32 rfl ?_);refine sa32_ ?_)|((with_reducible refine gld_ 32 rfl ?_);refine la32_ ?_))
   go_meet
   case rel=>exact ⟨_,(true),Z35,H',⟨by first | omega | exact Nat.le_refl _⟩,⟨pk_ u.out⟩,⟨pB_ HB.out⟩⟩
  ·rw [if_neg c5] at H
   have z:decide (a0 < 0)=false:=decide_eq_false c5;clear c5;refine rw_ z ?_
   by_cases c6:a0 > 4294967295
   ·rw [if_pos c6] at H
    have M:decide (4294967295 < a0)=true:=decide_eq_true c6;clear c6;have H':=D H;clear H
    go_wp2_with (first|((with_reducible refine gst_ 32 rfl ?_);refine sa32_ ?_)|((with_reducible refine gld_ 32 rfl ?_);refine la32_ ?_))
    go_meet
    case rel=>exact ⟨_,(true),Z35,H',⟨by first | omega | exact Nat.le_refl _⟩,⟨pk_ u.out⟩,⟨pB_ HB.out⟩⟩
   ·rw [if_neg c6] at H
    have M:decide (4294967295 < a0)=false:=decide_eq_false c6;clear c6;obtain ⟨A,T,H⟩:=bs_.mp H;(try dsimp only at H);have A7:=D T;clear T;have H':=D H;clear H
    go_wp2_with (first|((with_reducible refine gst_ 32 rfl ?_);refine sa32_ ?_)|((with_reducible refine gld_ 32 rfl ?_);refine la32_ ?_)|(go_at_call 18;(with_reducible refine (spec_FlowKeyOk.calls a b c d g i j l m n o p q s A _ A7.out).mono ?_);rintro e w9 ⟨rfl,hb⟩;have n_:=an_ (qb_ (pk_ u.out) hb)<|D (qc_ (pB_ HB.out) hb);clear u HB;obtain ⟨u,HB⟩:=n_;(try clear hb)))
    go_meet
    case rel=>exact ⟨_,(!A),Z35,H',⟨by first | omega | exact Nat.le_refl _⟩,⟨pk_ u.out⟩,⟨pB_ HB.out⟩⟩
 case rest =>
  clear K
  (try clear U);(try clear c4);(try clear c5);(try clear z);(try clear c6);(try clear M);skip
  obtain ⟨kq,E,rfl,HA,W,u,HB⟩:=hcut
  cases kq with
  | zero=>exact absurd HA.out (by simp [spec_HashOf.j0])
  | succ kj2 =>
   have H:=HA.out;clear HA;simp only [spec_HashOf.j0] at H
   by_cases c10:E=true
   ·subst c10
    rw [if_pos rfl] at H;obtain rfl:=Option.some.inj H
    go_wp2_with (first|((with_reducible refine gst_ 32 rfl ?_);refine sa32_ ?_)|((with_reducible refine gld_ 32 rfl ?_);refine la32_ ?_))
    go_ret;exact ⟨er_,pB_ HB.out⟩
   ·replace c10:=Bool.eq_false_iff.mpr c10
    subst c10;rw [if_neg (show ¬ (false=true) by decide)] at H;obtain ⟨x,X,H⟩:=bs_.mp H;(try dsimp only at H);have ad:=D X;clear X;have H':=D H;clear H
    go_wp2_with (first|((with_reducible refine gst_ 32 rfl ?_);refine sa32_ ?_)|((with_reducible refine gld_ 32 rfl ?_);refine la32_ ?_)|((with_reducible refine qd_ (f:=56) rfl ?_);refine qk_ (some 21) rfl rfl Try.func56 (by kernel_rfl) rfl #[.agg #[I L a,I L b,I L c,I L d,I L g,I L i,I L j,I L l,I L m,I L n,I L o,I L p,I L q,I L s]] rfl Z12 ?_;(with_reducible refine (spec_l11Bytes.calls a b c d g i j l m n o p q s x _ ad.out).mono ?_);rintro e ap ⟨ae,rfl,Z,hb⟩;refine ⟨_,rfl,?_⟩;have n_:=an_ (Kd.R_lower Z (qh_ (pB_ HB.out)))<|an_ (qb_ (pk_ u.out) hb)<|D (qc_ (pB_ HB.out) hb);clear u HB;obtain ⟨af,u,HB⟩:=n_;(try clear hb);(try clear Z)))
    go_loopg [5,7] kj2 (fun kq v5 v7 w'=>∃ (G:Int) (v:Int),v5=I L G∧v7=I L v∧Aside0 (spec_HashOf.l0 kq G x v=some r)∧Aside0 (kq≤kj2)∧Aside0 (Kd.R (Kd.int .u8) 5 w' w.heap.size (fun _=>True) ae x)∧Aside0 (w'.heap[B]?=some (.cells #[I L a,I L b,I L c,I L d,I L g,I L i,I L j,I L l,I L m,I L n,I L o,I L p,I L q,I L s] 32 (0,0)))∧Aside0 (Below w.heap.size w w'))
    case atStart=>exact ⟨(a0),(0),Z35,Z35,H',⟨Nat.le_refl _⟩,⟨pR_ af.out⟩,⟨pk_ u.out⟩,⟨pB_ HB.out⟩⟩
    case round =>
     clear H'
     (try clear c1);(try clear U);(try clear c4);(try clear c5);(try clear z);(try clear c6);(try clear M);(try clear c10);skip;skip;(try clear U)
     obtain ⟨G,v,rfl,rfl,HA,aa,HO_6,u,HB⟩:=hrel
     cases gk with
     | zero=>exact absurd HA.out (by simp [spec_HashOf.l0])
     | succ k2 =>
      have H:=HA.out;clear HA;simp only [spec_HashOf.l0] at H
      by_cases y:v < (x.length:Int)
      ·rw [if_pos y] at H
       have ah:decide (v < (x.length:Int))=true:=decide_eq_true y;clear y
       by_cases J:0≤v
       ·rw [if_pos J] at H
        have ar:decide (0≤v)=true:=decide_eq_true J;clear J;have H':=D H;clear H;obtain ⟨Ao16,co16,ai⟩:=Kd.R_slice HO_6.out;subst ai;have O:0≤(v:Int):=od_ Z22;have P:v < (x.length:Int):=od_ Z22;obtain ⟨au,aj,av⟩:=Kd.at_int (Kd.R_reads' HO_6.out).2.2 v O P;cases aj;replace O:=eq_true O;replace P:=eq_true P
        go_wp2_with (first|((with_reducible refine gst_ 32 rfl ?_);refine sa32_ ?_)|((with_reducible refine gld_ 32 rfl ?_);refine la32_ ?_))
        go_roundg k2
        case measure=>have:=W.out;have:=aa.out;omega
        case rel=>exact ⟨(Int.tmod (wrap64 ((Go.bits .xor .i64 G (wrap64 (rd x v))) * 16777619)) 4294967296),(wrap64 (v+1)),Z35,Z35,H',⟨by have:=W.out;have:=aa.out;omega⟩,⟨pR_ HO_6.out⟩,⟨pk_ u.out⟩,⟨pB_ HB.out⟩⟩
       ·rw [if_neg J] at H
        exact absurd H (by simp)
      ·rw [if_neg y] at H
       have ah:decide (v < (x.length:Int))=false:=decide_eq_false y;clear y;obtain rfl:=Option.some.inj H;obtain ⟨Ao17,co17,ak⟩:=Kd.R_slice HO_6.out;subst ak
       go_wp2_with (first|((with_reducible refine gst_ 32 rfl ?_);refine sa32_ ?_)|((with_reducible refine gld_ 32 rfl ?_);refine la32_ ?_))
       go_ret;exact ⟨er_,pB_ HB.out⟩
def spec_l11Home.f (k:Nat) (b:Int) (a:List (S52)) (c d e g h i j l m n o p q r:Int):Option (Int):=(spec_HashOf.f k b c d e g h i j l m n o p q r).bind fun s=>(if (a.length:Int)=0 then (none) else (some (Int.tmod s (a.length:Int))))
def spec_l11Home.T1:Bool×List (List Nat×List Nat):=(true,[([],[]),([0],[0]),([],[]),([1,2],[1,2]),([],[]),([4],[4]),([5],[5]),([3,6],[3,6]),([7,3,0,1,2,3,4,5,6,7],[7])])
def spec_l11Home.B1:List Nat:=[0,1,0,7,0,16,48,127,255]
theorem spec_l11Home.tab1:rtab .any (opsOf Try.f33 1)=spec_l11Home.T1:=by kernel_rfl
theorem spec_l11Home.bits1:q8_ spec_l11Home.T1.2 spec_l11Home.B1=true:=by kernel_rfl
theorem spec_l11Home.calls (k:Nat) (d:Int) (E:Option Addr) (G:Nat) (b:List (S52)) (g i j l m o p q s u v x y z r:Int) (w:World) (M:Kd.C k52 w E b.length b) (O:b.length≤G) (h:spec_l11Home.f k d b g i j l m o p q s u v x y z=some r) :
  Calls Try.prog 33 #[.agg #[I L d,Y E b.length G],.agg #[I L g,I L i,I L j,I L l,I L m,I L o,I L p,I L q,I L s,I L u,I L v,I L x,I L y,I L z]] w fun e w'=>e=.returned (I L r)∧Below w.heap.size w w':=by
 have hu26:=Try.underlying26
 have hu32:=Try.underlying32
 have W:=D M
 have X:=D O
 clear M O
 have HB:=D (Below.refl w.heap.size w)
 have H:((spec_HashOf.f k d g i j l m o p q s u v x y z).bind fun J=>(if (b.length:Int)=0 then (none) else (some (Int.tmod J (b.length:Int)))))=some r:=h
 clear h
 obtain ⟨J,P,H⟩:=bs_.mp H
 (try dsimp only at H)
 have T:=D P
 clear P
 by_cases c4:(b.length:Int)=0
 ·rw [if_pos c4] at H
  exact absurd H (by simp)
 ·rw [if_neg c4] at H
  have Z:((b.length:Int) == 0)=false:=beq_eq_false_iff_ne.mpr c4;have aa:((b.length:Int) != 0)=true:=bne_iff_ne.mpr c4
  have ab:¬ (b=[]):=fun h_=>c4 (by rw [h_];rfl)
  obtain rfl:=Option.some.inj H;go_enter Try.func33,Try.ntmps33
  try go_wp2_with (first|((with_reducible refine gst_ 32 rfl ?_);refine sa32_ ?_)|((with_reducible refine gld_ 32 rfl ?_);refine la32_ ?_)|((with_reducible refine qg_ (N:=2) rfl ?_);refine bx_ (N:=2) (cs:=#[I L d,Y E b.length G]) (t:=26) ?_;intro A hg w5 hbox hb;have n_:=an_ (qc_ (pB_ HB.out) hb)<|an_ (hbox)<|an_ (bg_ hg (pB_ HB.out):w.heap.size≤A)<|D (bg_ hg (pB_ HB.out):w.heap.size≤A);clear HB;obtain ⟨HB,a,ad,ae⟩:=n_;clear hb hbox hg)|((with_reducible refine qg_ (N:=3) rfl ?_);refine bx_ (N:=3) (cs:=#[I L g,I L i,I L j,I L l,I L m,I L o,I L p,I L q,I L s,I L u,I L v,I L x,I L y,I L z]) (t:=32) ?_;intro B hg U hbox hb;have n_:=an_ (qb_ (pk_ a.out) hb)<|an_ (qc_ (pB_ HB.out) hb)<|an_ (hbox)<|an_ (bg_ hg (pB_ HB.out):w.heap.size≤B)<|an_ (bg_ hg (pB_ HB.out):w.heap.size≤B)<|an_ (nl_ hg (pk_ a.out):A≠B)<|D (by rw [hg];exact Nat.ne_of_gt (qz_ (pk_ a.out)):B≠A);clear a HB;obtain ⟨a,HB,c,af,ag,ah,ai⟩:=n_;clear hb hbox hg))
  have n_:=an_ (qt_ a.out)<|an_ (qt_ c.out)<|D (qr_ HB.out)
  clear a c HB;obtain ⟨a,c,HB⟩:=n_;refine qaw_ (n:=9) (S:=fun w'=>w'.cell? ⟨A,0,none⟩=some (I L d)∧w'.cell? ⟨A,1,none⟩=some (Y E b.length G)∧Bv w' B #[I L g,I L i,I L j,I L l,I L m,I L o,I L p,I L q,I L s,I L u,I L v,I L x,I L y,I L z]) (ds:=[]) (bz 9 0) (by kernel_rfl) rfl (by kernel_rfl) ⟨bc_ a.out 0,bc_ a.out 1,bv_ c.out⟩ (fun hHeld=>?_);refine q6_ spec_l11Home.tab1 spec_l11Home.bits1 (fun HT_ HW_=>?_);generalize U.drew=w7 at a c HB hHeld ⊢;refine pb_ 0 ?_;refine pb_ 4 ?_;refine tb_ 1 rfl rfl hHeld (by first|exact (fun _ h_=>lw3_ rfl rfl h_.2.2 rfl)|(rintro w' ⟨s0,s1,s2⟩;go_simp;with_reducible rfl)) ?_;refine tb_ 2 rfl rfl hHeld (by first|exact (fun _ h_=>lv32_ rfl rfl h_.2.2)|(rintro w' ⟨s0,s1,s2⟩;go_simp;with_reducible rfl)) ?_;refine tb_ 5 rfl rfl hHeld (by rintro w' ⟨s0,s1,s2⟩;go_simp;with_reducible rfl) ?_;refine pb_ 6 ?_;refine oa_ 3 8 9 127 HT_ (fun K hK=>?_);refine goes_ Try.func45 (by kernel_rfl) rfl #[I L d,.agg #[I L g,I L i,I L j,I L l,I L m,I L o,I L p,I L q,I L s,I L u,I L v,I L x,I L y,I L z]] (by rfl) rfl rfl Z12 ?_;with_reducible refine (spec_HashOf.calls k d g i j l m o p q s u v x y z J _ T.out).mono ?_
  rintro e w8 ⟨rfl,hb⟩;refine ⟨_,rfl,?_⟩
  have n_:=an_ (qb_ (pk_ a.out) hb)<|an_ (qb_ (pk_ c.out) hb)<|D (qc_ (pB_ HB.out) hb)
  clear a c HB;obtain ⟨a,c,HB⟩:=n_;refine hK.out _ _ ⟨bc_ a.out 0,bc_ a.out 1,bv_ c.out⟩ (fun hHeld=>?_);clear hK K;refine nx_ (N:=some 8) ?_;refine pb_ 7 ?_;refine pb_ 8 ?_;refine done_ (qaq_ HT_.out (by kernel_rfl)) ?_
  try go_wp2_with (first|((with_reducible refine gst_ 32 rfl ?_);refine sa32_ ?_)|((with_reducible refine gld_ 32 rfl ?_);refine la32_ ?_))
  go_ret;exact ⟨er_,pB_ HB.out⟩
end Go.Proofs.Yteahaehbciccmaa.PFnPutDrop
