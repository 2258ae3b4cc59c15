-- by a program of this session's: scripts that stand several times in the printed texts
import Derived.Test.YteahaehbciccmaaProg
import Derived.Below
import Derived.Deep.Draws
import Derived.Deep.AppendLies
import Derived.Maps.AppendAt
import Derived.OwnWalk
import Derived.Laws.BytesArg
import Derived.Laws.MakeOwn
import Derived.Laws.OwnMore
import Derived.Deep.OwnRows
import Derived.Tactics
import Derived.Lib.ConvBytes
import Derived.Laws.Slices
import Derived.WalkKit
import Derived.KernelRfl
import Derived.RowKit3
import Derived.Deep.LoopGhost
import Derived.Deep.QuietTactic
import Derived.BigQuiet
import Derived.WideLaws
import Derived.Deep.DeepCutAuto
import Derived.Deep.CutBlock
import Derived.Deep.RegionHeld3
import Derived.Laws.Rows
import Derived.Lib.AppendStr
import Derived.ArgAppend
import Derived.Laws.IdiomCopy
import Derived.OrdersHeld
import Derived.Laws.BitsLemmas
import Derived.RowKit
import Derived.Test.YteahaehbciccmaaVWords
import Derived.Test.YteahaehbciccmaaVOpen
import Derived.Test.YteahaehbciccmaaVMap
import Derived.Test.YteahaehbciccmaaWWords
import Derived.Test.YteahaehbciccmaaWLast
import Derived.Test.YteahaehbciccmaaWTab
import Derived.Test.YteahaehbciccmaaWFour
import Derived.Test.YteahaehbciccmaaWQPut
import Derived.Test.YteahaehbciccmaaWApart
import Derived.Test.YteahaehbciccmaaWArr
import Derived.Test.YteahaehbciccmaaWZeros
import Derived.Test.YteahaehbciccmaaWFoot
import Derived.Test.YteahaehbciccmaaWKept
import Derived.Test.YteahaehbciccmaaWShare
import Derived.Test.YteahaehbciccmaaWN
import Derived.Test.YteahaehbciccmaaWFootNe
import Derived.Test.YteahaehbciccmaaWAt
import Derived.Test.YteahaehbciccmaaWEqStruct
import Derived.Test.YteahaehbciccmaaWRepsOne
import Derived.Test.YteahaehbciccmaaWInv
import Derived.Test.YteahaehbciccmaaWInvWords
import Derived.Test.YteahaehbciccmaaWGuard
import Derived.Test.YteahaehbciccmaaWNEv
import Derived.Test.YteahaehbciccmaaWMore
namespace Go.Proofs.Yteahaehbciccmaa.ZFnPutDrop
open Go.RowKit Go.Proofs.YteahaehbciccmaaW.PrintWords Go.Proofs.YteahaehbciccmaaW.PrintLast Go.Proofs.YteahaehbciccmaaW.PrintMore Go.Proofs.YteahaehbciccmaaV
set_option maxRecDepth 100000
theorem Z0 {P:Prop} (h:P:=by first | (simp only [List.map_toArray,List.map_cons,List.map_nil,Act.eval,Array.getD_eq_getD_getElem?,Option.getD_some,e39];done) | (simp only [List.map_toArray,List.map_cons,List.map_nil,Act.eval,Array.getD_eq_getD_getElem?,Option.getD_some,e39];rfl)):P:=h
theorem Z1 {P:Prop} (h:P:=by first | (simp only [List.map_toArray,List.map_cons,List.map_nil,Act.eval,Array.getD_eq_getD_getElem?,Option.getD_some,e20];done) | (simp only [List.map_toArray,List.map_cons,List.map_nil,Act.eval,Array.getD_eq_getD_getElem?,Option.getD_some,e20];rfl)):P:=h
theorem Z2 {P:Prop} (h:P:=by repeat (first | (with_reducible first | exact (Q_HI0_e18 h0_ h1_) | apply IsS61.alloc | apply IsS61.drewN | apply IsS61.drew | apply IsS61.set_1 | apply IsS61.set_2 | refine IsS61.far ?_ Xb.out _) | exact (Q_HI0_e18 h0_ h1_))):P:=h
theorem Z3 {P:Prop} (h:P:=by repeat (first | (with_reducible first | exact (Q_HI0_e22 h0_) | apply IsS61.alloc | apply IsS61.drewN | apply IsS61.drew | apply IsS61.set_1 | apply IsS61.set_2 | refine IsS61.far ?_ Xb.out _) | exact (Q_HI0_e22 h0_))):P:=h
theorem Z4 {P:Prop} (h:P:=by first | (simp only [putAll,Act.put,List.setIfInBounds_toArray,List.set_cons_zero,List.set_cons_succ];done) | (simp only [putAll,Act.put,List.setIfInBounds_toArray,List.set_cons_zero,List.set_cons_succ];rfl)):P:=h
theorem Z5 {P:Prop} (h:P:=by repeat (first | (with_reducible first | exact HK.out | apply Kept.alloc | apply Kept.drewN | apply Kept.drew | refine Kept.setCell ?_ (.inr Jb.out) _ | refine Kept.setCell ?_ (.inr Mb.out) _) | exact HK.out)):P:=h
theorem Z6 {P:Prop} (h:P:=by exact pP_ BK259.out):P:=h
theorem Z7 {P:Prop} (h:P:=by exact pP_ Ua.out):P:=h
theorem Z8 {P:Prop} (h:P:=by exact pP_ Xa.out):P:=h
theorem Z9 {P:Prop} (h:P:=by exact pP_ Ob.out):P:=h
theorem Z10 {P:Prop} (h:P:=by exact pP_ Ua.out):P:=h
theorem Z11 {P:Prop} (h:P:=by exact pP_ Jb.out):P:=h
theorem Z12 {P:Prop} (h:P:=by (try simp only [List.map_toArray,List.map_cons,List.map_nil]);first | done | rfl | (simp only [List.length_drop,List.length_take];rfl) | (simp only [dgt_];rfl)):P:=h
theorem Z13 {P:Prop} (h:P:=by repeat (first | (with_reducible first | exact HBW.out | apply q0_ | apply q2_ | apply qr_) | exact HBW.out)):P:=h
theorem Z14 {P:Prop} (h:P:=by rintro w' ⟨s0,s1,s2,s3,s4,s5,s6,s7,s8,s9,s10,s11,s12,s13,s14,s15,s16,s17⟩;go_simp;with_reducible rfl):P:=h
theorem Z15 {P:Prop} (h:P:=by exact pP_ Oa.out):P:=h
theorem Z16 {P:Prop} (h:P:=by exact pP_ Xa.out):P:=h
theorem Z17 {P:Prop} (h:P:=by exact pP_ Jb.out):P:=h
theorem Z18 {P:Prop} (h:P:=by rintro w' ⟨s0,s1,s2,s3,s4,s5,s6,s7,s8,s9,s10,s11,s12,s13,s14,s15⟩;go_simp;with_reducible rfl):P:=h
theorem Z19 {P:Prop} (h:P:=by rintro w' ⟨s0,s1,s2,s3,s4,s5,s6,s7,s8,s9,s10,s11,s12,s13⟩;go_simp;with_reducible rfl):P:=h
theorem Z20 {P:Prop} (h:P:=by first | (simp only [putAll,Act.put,List.setIfInBounds_toArray,List.set_cons_zero,List.set_cons_succ];done) | (simp only [dgt_,putAll,Act.put,List.setIfInBounds_toArray,List.set_cons_zero,List.set_cons_succ];done)):P:=h
theorem Z21 {P:Prop} (h:P:=by rintro w' ⟨s0,s1,s2,s3,s4⟩;go_simp;with_reducible rfl):P:=h
theorem Z22 {P:Prop} (h:P:=by first | (with_reducible assumption) | assumption):P:=h
theorem Z23 {P:Prop} (h:P:=by rintro w' ⟨s0,s1⟩;go_simp;with_reducible rfl):P:=h
theorem Z24 {P:Prop} (h:P:=by rw [ha.out];exact qw_ 0 hb_ rfl rfl rfl):P:=h
theorem Z25 {P:Prop} (h:P:=by rw [ha.out];exact qw_ 1 hb_ rfl rfl rfl):P:=h
theorem Z26 {P:Prop} (h:P:=by rw [ha.out];exact qw_ 2 hb_ rfl rfl rfl):P:=h
theorem Z27 {P:Prop} (h:P:=by rw [ha.out];exact qw_ 3 hb_ rfl rfl rfl):P:=h
theorem Z28 {P:Prop} (h:P:=by rw [ha.out];exact qw_ 4 hb_ rfl rfl rfl):P:=h
theorem Z29 {P:Prop} (h:P:=by rw [ha.out];exact qw_ 5 hb_ rfl rfl rfl):P:=h
theorem Z30 {P:Prop} (h:P:=by rw [ha.out];exact qw_ 6 hb_ rfl rfl rfl):P:=h
theorem Z31 {P:Prop} (h:P:=by rw [ha.out];exact qw_ 7 hb_ rfl rfl rfl):P:=h
theorem Z32 {P:Prop} (h:P:=by rw [ha.out];exact qw_ 8 hb_ rfl rfl rfl):P:=h
theorem Z33 {P:Prop} (h:P:=by rw [ha.out];exact qw_ 9 hb_ rfl rfl rfl):P:=h
theorem Z34 {P:Prop} (h:P:=by rw [ha.out];exact putSel_none (v:=undef) rfl):P:=h
theorem Z35 {P:Prop} (h:P:=by first | rfl | (simp;done) | (simp [*];done)):P:=h
theorem Z36 {P:Prop} (h:P:=by first | (rw [add_block];exact Kd.own_blk (IsS61.own_ne HI0.out Oa.out (by decide))) | (show (Addr.add _ _).block≠_;rw [add_block];exact Kd.own_blk (IsS61.own_ne HI0.out Oa.out (by decide))) | exact Kd.own_blk (IsS61.own_ne HI0.out Oa.out (by decide))):P:=h
theorem Z37 {P:Prop} (h:P:=by have h_:=Kd.R_ne Oa.out Xa.out (by decide);intro e_;exact h_ (by rw [e_];rfl)):P:=h
theorem Z38 {P:Prop} (h:P:=by have h_:=Kd.R_ne Oa.out Ua.out (by decide);intro e_;exact h_ (by rw [e_];rfl)):P:=h
theorem Z39 {P:Prop} (h:P:=by have h_:=Kd.R_ne Ma.out Oa.out (by decide);intro e_;exact h_ (by rw [e_];rfl)):P:=h
theorem Z40 {P:Prop} (h:P:=by have h_:=Kd.R_ne Ma.out Ka.out (by decide);intro e_;exact h_ (by rw [e_];rfl)):P:=h
theorem Z41 {P:Prop} (h:P:=by have h_:=Kd.R_ne Ma.out Ua.out (by decide);intro e_;exact h_ (by rw [e_];rfl)):P:=h
theorem Z42 {P:Prop} (h:P:=by have h_:=Kd.R_ne Ma.out Kb.out (by decide);intro e_;exact h_ (by rw [e_];rfl)):P:=h
theorem Z43 {P:Prop} (h:P:=by have h_:=Kd.R_ne Mb.out Oa.out (by decide);intro e_;exact h_ (by rw [e_];rfl)):P:=h
theorem Z44 {P:Prop} (h:P:=by have h_:=Kd.R_ne Mb.out Xa.out (by decide);intro e_;exact h_ (by rw [e_];rfl)):P:=h
theorem Z45 {P:Prop} (h:P:=by have h_:=Kd.R_ne Mb.out Jb.out (by decide);intro e_;exact h_ (by rw [e_];rfl)):P:=h
theorem Z46 {P:Prop} (h:P:=by have h_:=Kd.R_ne Mb.out Ob.out (by decide);intro e_;exact h_ (by rw [e_];rfl)):P:=h
theorem st30_ {e:Operand→Value} {o:Oper} {p v:Operand} {W:World} {g n:Nat} {x0:Int} {x1:Int} {x2:Int} {x3:Int} {x4:Int} {x5:Int} {x6:Int} {x7:Int} {x8:Int} {x9:Int} {x10:Int} {x11:Int} {x12:Int} (ho:o.op=.store 30 p v) (hp:e p=.pointer (some ⟨g,0,none⟩)) (hv:e v=.agg #[.int .i64 x0,.int .i64 x1,.int .i64 x2,.int .i64 x3,.int .i64 x4,.int .i64 x5,.int .i64 x6,.int .i64 x7,.int .i64 x8,.int .i64 x9,.int .i64 x10,.int .i64 x11,.int .i64 x12]) (hb:Blk W g n) (hn:13≤n):(execOp e o).run Try.prog W=.ok .skip (((((((((((((W.setCell ⟨g,0,none⟩ (.int .i64 x0)).setCell ⟨g,1,none⟩ (.int .i64 x1)).setCell ⟨g,2,none⟩ (.int .i64 x2)).setCell ⟨g,3,none⟩ (.int .i64 x3)).setCell ⟨g,4,none⟩ (.int .i64 x4)).setCell ⟨g,5,none⟩ (.int .i64 x5)).setCell ⟨g,6,none⟩ (.int .i64 x6)).setCell ⟨g,7,none⟩ (.int .i64 x7)).setCell ⟨g,8,none⟩ (.int .i64 x8)).setCell ⟨g,9,none⟩ (.int .i64 x9)).setCell ⟨g,10,none⟩ (.int .i64 x10)).setCell ⟨g,11,none⟩ (.int .i64 x11)).setCell ⟨g,12,none⟩ (.int .i64 x12)):=by
  have hu:=Try.underlying30
  obtain ⟨o1,o2,o3,o4,o5,o6⟩:=o
  dsimp only at ho
  subst ho
  go_simp
  change Result.andThen ((stored Try.prog W ⟨g,0,none⟩ (.int .i64 x0) .plain).andThen fun _ w=>(stored Try.prog w ⟨g,1,none⟩ (.int .i64 x1) .plain).andThen fun _ w=>(stored Try.prog w ⟨g,2,none⟩ (.int .i64 x2) .plain).andThen fun _ w=>(stored Try.prog w ⟨g,3,none⟩ (.int .i64 x3) .plain).andThen fun _ w=>(stored Try.prog w ⟨g,4,none⟩ (.int .i64 x4) .plain).andThen fun _ w=>(stored Try.prog w ⟨g,5,none⟩ (.int .i64 x5) .plain).andThen fun _ w=>(stored Try.prog w ⟨g,6,none⟩ (.int .i64 x6) .plain).andThen fun _ w=>(stored Try.prog w ⟨g,7,none⟩ (.int .i64 x7) .plain).andThen fun _ w=>(stored Try.prog w ⟨g,8,none⟩ (.int .i64 x8) .plain).andThen fun _ w=>(stored Try.prog w ⟨g,9,none⟩ (.int .i64 x9) .plain).andThen fun _ w=>(stored Try.prog w ⟨g,10,none⟩ (.int .i64 x10) .plain).andThen fun _ w=>(stored Try.prog w ⟨g,11,none⟩ (.int .i64 x11) .plain).andThen fun _ w=>stored Try.prog w ⟨g,12,none⟩ (.int .i64 x12) .plain) (fun _ w=>Result.ok Next.skip w)=_
  refine ao_ (a:=()) (w:=(((((((((((((W.setCell ⟨g,0,none⟩ (.int .i64 x0)).setCell ⟨g,1,none⟩ (.int .i64 x1)).setCell ⟨g,2,none⟩ (.int .i64 x2)).setCell ⟨g,3,none⟩ (.int .i64 x3)).setCell ⟨g,4,none⟩ (.int .i64 x4)).setCell ⟨g,5,none⟩ (.int .i64 x5)).setCell ⟨g,6,none⟩ (.int .i64 x6)).setCell ⟨g,7,none⟩ (.int .i64 x7)).setCell ⟨g,8,none⟩ (.int .i64 x8)).setCell ⟨g,9,none⟩ (.int .i64 x9)).setCell ⟨g,10,none⟩ (.int .i64 x10)).setCell ⟨g,11,none⟩ (.int .i64 x11)).setCell ⟨g,12,none⟩ (.int .i64 x12))) ?_ rfl
  have h:=hb
  refine (lf_ h (show 0 < n by omega)).trans ?_
  replace h:=h.put (b:=g) (i:=0) (v:=.int .i64 x0)
  refine (lf_ h (show 1 < n by omega)).trans ?_
  replace h:=h.put (b:=g) (i:=1) (v:=.int .i64 x1)
  refine (lf_ h (show 2 < n by omega)).trans ?_
  replace h:=h.put (b:=g) (i:=2) (v:=.int .i64 x2)
  refine (lf_ h (show 3 < n by omega)).trans ?_
  replace h:=h.put (b:=g) (i:=3) (v:=.int .i64 x3)
  refine (lf_ h (show 4 < n by omega)).trans ?_
  replace h:=h.put (b:=g) (i:=4) (v:=.int .i64 x4)
  refine (lf_ h (show 5 < n by omega)).trans ?_
  replace h:=h.put (b:=g) (i:=5) (v:=.int .i64 x5)
  refine (lf_ h (show 6 < n by omega)).trans ?_
  replace h:=h.put (b:=g) (i:=6) (v:=.int .i64 x6)
  refine (lf_ h (show 7 < n by omega)).trans ?_
  replace h:=h.put (b:=g) (i:=7) (v:=.int .i64 x7)
  refine (lf_ h (show 8 < n by omega)).trans ?_
  replace h:=h.put (b:=g) (i:=8) (v:=.int .i64 x8)
  refine (lf_ h (show 9 < n by omega)).trans ?_
  replace h:=h.put (b:=g) (i:=9) (v:=.int .i64 x9)
  refine (lf_ h (show 10 < n by omega)).trans ?_
  replace h:=h.put (b:=g) (i:=10) (v:=.int .i64 x10)
  refine (lf_ h (show 11 < n by omega)).trans ?_
  replace h:=h.put (b:=g) (i:=11) (v:=.int .i64 x11)
  exact lf0_ h (show 12 < n by omega)
theorem ld30_ {e:Operand→Value} {o:Oper} {p:Operand} {W:World} {g:Nat} {tt:TypeId} {v0 v1 v2 v3 v4 v5 v6 v7 v8 v9 v10 v11 v12:Value} (ho:o.op=.load 30 p) (hp:e p=.pointer (some ⟨g,0,none⟩)) (hb:W.heap[g]?=some (.cells #[v0,v1,v2,v3,v4,v5,v6,v7,v8,v9,v10,v11,v12] tt (0,0))):(execOp e o).run Try.prog W=.ok (.value (.agg #[v0,v1,v2,v3,v4,v5,v6,v7,v8,v9,v10,v11,v12])) W:=by
  have hu:=Try.underlying30
  obtain ⟨o1,o2,o3,o4,o5,o6⟩:=o
  dsimp only at ho
  subst ho
  have hc:=fun i=>qi_ hb i
  clear hb
  revert hc
  go_simp
  intro hc
  change Result.andThen (Result.andThen ((ldd Try.prog W ⟨g,0,none⟩ .plain).andThen fun a0 w=>(ldd Try.prog w ⟨g,1,none⟩ .plain).andThen fun a1 w=>(ldd Try.prog w ⟨g,2,none⟩ .plain).andThen fun a2 w=>(ldd Try.prog w ⟨g,3,none⟩ .plain).andThen fun a3 w=>(ldd Try.prog w ⟨g,4,none⟩ .plain).andThen fun a4 w=>(ldd Try.prog w ⟨g,5,none⟩ .plain).andThen fun a5 w=>(ldd Try.prog w ⟨g,6,none⟩ .plain).andThen fun a6 w=>(ldd Try.prog w ⟨g,7,none⟩ .plain).andThen fun a7 w=>(ldd Try.prog w ⟨g,8,none⟩ .plain).andThen fun a8 w=>(ldd Try.prog w ⟨g,9,none⟩ .plain).andThen fun a9 w=>(ldd Try.prog w ⟨g,10,none⟩ .plain).andThen fun a10 w=>(ldd Try.prog w ⟨g,11,none⟩ .plain).andThen fun a11 w=>(ldd Try.prog w ⟨g,12,none⟩ .plain).andThen fun a12 w=>Result.ok #[a0,a1,a2,a3,a4,a5,a6,a7,a8,a9,a10,a11,a12] w) (fun a w=>Result.ok (Value.agg a) w)) (fun a w=>Result.ok (Next.value a) w)=_
  refine ao_ (a:=Value.agg #[v0,v1,v2,v3,v4,v5,v6,v7,v8,v9,v10,v11,v12]) (w:=W) (ao_ (a:=#[v0,v1,v2,v3,v4,v5,v6,v7,v8,v9,v10,v11,v12]) (w:=W) ?_ rfl) rfl
  refine (lg_ (v:=v0) (hc 0)).trans ?_
  refine (lg_ (v:=v1) (hc 1)).trans ?_
  refine (lg_ (v:=v2) (hc 2)).trans ?_
  refine (lg_ (v:=v3) (hc 3)).trans ?_
  refine (lg_ (v:=v4) (hc 4)).trans ?_
  refine (lg_ (v:=v5) (hc 5)).trans ?_
  refine (lg_ (v:=v6) (hc 6)).trans ?_
  refine (lg_ (v:=v7) (hc 7)).trans ?_
  refine (lg_ (v:=v8) (hc 8)).trans ?_
  refine (lg_ (v:=v9) (hc 9)).trans ?_
  refine (lg_ (v:=v10) (hc 10)).trans ?_
  refine (lg_ (v:=v11) (hc 11)).trans ?_
  refine (lg_ (v:=v12) (hc 12)).trans ?_
  rfl
theorem st32_ {e:Operand→Value} {o:Oper} {p v:Operand} {W:World} {g n:Nat} {x0:Int} {x1:Int} {x2:Int} {x3:Int} {x4:Int} {x5:Int} {x6:Int} {x7:Int} {x8:Int} {x9:Int} {x10:Int} {x11:Int} {x12:Int} {x13:Int} (ho:o.op=.store 32 p v) (hp:e p=.pointer (some ⟨g,0,none⟩)) (hv:e v=.agg #[.int .i64 x0,.int .i64 x1,.int .i64 x2,.int .i64 x3,.int .i64 x4,.int .i64 x5,.int .i64 x6,.int .i64 x7,.int .i64 x8,.int .i64 x9,.int .i64 x10,.int .i64 x11,.int .i64 x12,.int .i64 x13]) (hb:Blk W g n) (hn:14≤n):(execOp e o).run Try.prog W=.ok .skip ((((((((((((((W.setCell ⟨g,0,none⟩ (.int .i64 x0)).setCell ⟨g,1,none⟩ (.int .i64 x1)).setCell ⟨g,2,none⟩ (.int .i64 x2)).setCell ⟨g,3,none⟩ (.int .i64 x3)).setCell ⟨g,4,none⟩ (.int .i64 x4)).setCell ⟨g,5,none⟩ (.int .i64 x5)).setCell ⟨g,6,none⟩ (.int .i64 x6)).setCell ⟨g,7,none⟩ (.int .i64 x7)).setCell ⟨g,8,none⟩ (.int .i64 x8)).setCell ⟨g,9,none⟩ (.int .i64 x9)).setCell ⟨g,10,none⟩ (.int .i64 x10)).setCell ⟨g,11,none⟩ (.int .i64 x11)).setCell ⟨g,12,none⟩ (.int .i64 x12)).setCell ⟨g,13,none⟩ (.int .i64 x13)):=by
  have hu:=Try.underlying32
  obtain ⟨o1,o2,o3,o4,o5,o6⟩:=o
  dsimp only at ho
  subst ho
  go_simp
  change Result.andThen ((stored Try.prog W ⟨g,0,none⟩ (.int .i64 x0) .plain).andThen fun _ w=>(stored Try.prog w ⟨g,1,none⟩ (.int .i64 x1) .plain).andThen fun _ w=>(stored Try.prog w ⟨g,2,none⟩ (.int .i64 x2) .plain).andThen fun _ w=>(stored Try.prog w ⟨g,3,none⟩ (.int .i64 x3) .plain).andThen fun _ w=>(stored Try.prog w ⟨g,4,none⟩ (.int .i64 x4) .plain).andThen fun _ w=>(stored Try.prog w ⟨g,5,none⟩ (.int .i64 x5) .plain).andThen fun _ w=>(stored Try.prog w ⟨g,6,none⟩ (.int .i64 x6) .plain).andThen fun _ w=>(stored Try.prog w ⟨g,7,none⟩ (.int .i64 x7) .plain).andThen fun _ w=>(stored Try.prog w ⟨g,8,none⟩ (.int .i64 x8) .plain).andThen fun _ w=>(stored Try.prog w ⟨g,9,none⟩ (.int .i64 x9) .plain).andThen fun _ w=>(stored Try.prog w ⟨g,10,none⟩ (.int .i64 x10) .plain).andThen fun _ w=>(stored Try.prog w ⟨g,11,none⟩ (.int .i64 x11) .plain).andThen fun _ w=>(stored Try.prog w ⟨g,12,none⟩ (.int .i64 x12) .plain).andThen fun _ w=>stored Try.prog w ⟨g,13,none⟩ (.int .i64 x13) .plain) (fun _ w=>Result.ok Next.skip w)=_
  refine ao_ (a:=()) (w:=((((((((((((((W.setCell ⟨g,0,none⟩ (.int .i64 x0)).setCell ⟨g,1,none⟩ (.int .i64 x1)).setCell ⟨g,2,none⟩ (.int .i64 x2)).setCell ⟨g,3,none⟩ (.int .i64 x3)).setCell ⟨g,4,none⟩ (.int .i64 x4)).setCell ⟨g,5,none⟩ (.int .i64 x5)).setCell ⟨g,6,none⟩ (.int .i64 x6)).setCell ⟨g,7,none⟩ (.int .i64 x7)).setCell ⟨g,8,none⟩ (.int .i64 x8)).setCell ⟨g,9,none⟩ (.int .i64 x9)).setCell ⟨g,10,none⟩ (.int .i64 x10)).setCell ⟨g,11,none⟩ (.int .i64 x11)).setCell ⟨g,12,none⟩ (.int .i64 x12)).setCell ⟨g,13,none⟩ (.int .i64 x13))) ?_ rfl
  have h:=hb
  refine (lf_ h (show 0 < n by omega)).trans ?_
  replace h:=h.put (b:=g) (i:=0) (v:=.int .i64 x0)
  refine (lf_ h (show 1 < n by omega)).trans ?_
  replace h:=h.put (b:=g) (i:=1) (v:=.int .i64 x1)
  refine (lf_ h (show 2 < n by omega)).trans ?_
  replace h:=h.put (b:=g) (i:=2) (v:=.int .i64 x2)
  refine (lf_ h (show 3 < n by omega)).trans ?_
  replace h:=h.put (b:=g) (i:=3) (v:=.int .i64 x3)
  refine (lf_ h (show 4 < n by omega)).trans ?_
  replace h:=h.put (b:=g) (i:=4) (v:=.int .i64 x4)
  refine (lf_ h (show 5 < n by omega)).trans ?_
  replace h:=h.put (b:=g) (i:=5) (v:=.int .i64 x5)
  refine (lf_ h (show 6 < n by omega)).trans ?_
  replace h:=h.put (b:=g) (i:=6) (v:=.int .i64 x6)
  refine (lf_ h (show 7 < n by omega)).trans ?_
  replace h:=h.put (b:=g) (i:=7) (v:=.int .i64 x7)
  refine (lf_ h (show 8 < n by omega)).trans ?_
  replace h:=h.put (b:=g) (i:=8) (v:=.int .i64 x8)
  refine (lf_ h (show 9 < n by omega)).trans ?_
  replace h:=h.put (b:=g) (i:=9) (v:=.int .i64 x9)
  refine (lf_ h (show 10 < n by omega)).trans ?_
  replace h:=h.put (b:=g) (i:=10) (v:=.int .i64 x10)
  refine (lf_ h (show 11 < n by omega)).trans ?_
  replace h:=h.put (b:=g) (i:=11) (v:=.int .i64 x11)
  refine (lf_ h (show 12 < n by omega)).trans ?_
  replace h:=h.put (b:=g) (i:=12) (v:=.int .i64 x12)
  exact lf0_ h (show 13 < n by omega)
theorem ld32_ {e:Operand→Value} {o:Oper} {p:Operand} {W:World} {g:Nat} {tt:TypeId} {v0 v1 v2 v3 v4 v5 v6 v7 v8 v9 v10 v11 v12 v13:Value} (ho:o.op=.load 32 p) (hp:e p=.pointer (some ⟨g,0,none⟩)) (hb:W.heap[g]?=some (.cells #[v0,v1,v2,v3,v4,v5,v6,v7,v8,v9,v10,v11,v12,v13] tt (0,0))):(execOp e o).run Try.prog W=.ok (.value (.agg #[v0,v1,v2,v3,v4,v5,v6,v7,v8,v9,v10,v11,v12,v13])) W:=by
  have hu:=Try.underlying32
  obtain ⟨o1,o2,o3,o4,o5,o6⟩:=o
  dsimp only at ho
  subst ho
  have hc:=fun i=>qi_ hb i
  clear hb
  revert hc
  go_simp
  intro hc
  change Result.andThen (Result.andThen ((ldd Try.prog W ⟨g,0,none⟩ .plain).andThen fun a0 w=>(ldd Try.prog w ⟨g,1,none⟩ .plain).andThen fun a1 w=>(ldd Try.prog w ⟨g,2,none⟩ .plain).andThen fun a2 w=>(ldd Try.prog w ⟨g,3,none⟩ .plain).andThen fun a3 w=>(ldd Try.prog w ⟨g,4,none⟩ .plain).andThen fun a4 w=>(ldd Try.prog w ⟨g,5,none⟩ .plain).andThen fun a5 w=>(ldd Try.prog w ⟨g,6,none⟩ .plain).andThen fun a6 w=>(ldd Try.prog w ⟨g,7,none⟩ .plain).andThen fun a7 w=>(ldd Try.prog w ⟨g,8,none⟩ .plain).andThen fun a8 w=>(ldd Try.prog w ⟨g,9,none⟩ .plain).andThen fun a9 w=>(ldd Try.prog w ⟨g,10,none⟩ .plain).andThen fun a10 w=>(ldd Try.prog w ⟨g,11,none⟩ .plain).andThen fun a11 w=>(ldd Try.prog w ⟨g,12,none⟩ .plain).andThen fun a12 w=>(ldd Try.prog w ⟨g,13,none⟩ .plain).andThen fun a13 w=>Result.ok #[a0,a1,a2,a3,a4,a5,a6,a7,a8,a9,a10,a11,a12,a13] w) (fun a w=>Result.ok (Value.agg a) w)) (fun a w=>Result.ok (Next.value a) w)=_
  refine ao_ (a:=Value.agg #[v0,v1,v2,v3,v4,v5,v6,v7,v8,v9,v10,v11,v12,v13]) (w:=W) (ao_ (a:=#[v0,v1,v2,v3,v4,v5,v6,v7,v8,v9,v10,v11,v12,v13]) (w:=W) ?_ rfl) rfl
  refine (lg_ (v:=v0) (hc 0)).trans ?_
  refine (lg_ (v:=v1) (hc 1)).trans ?_
  refine (lg_ (v:=v2) (hc 2)).trans ?_
  refine (lg_ (v:=v3) (hc 3)).trans ?_
  refine (lg_ (v:=v4) (hc 4)).trans ?_
  refine (lg_ (v:=v5) (hc 5)).trans ?_
  refine (lg_ (v:=v6) (hc 6)).trans ?_
  refine (lg_ (v:=v7) (hc 7)).trans ?_
  refine (lg_ (v:=v8) (hc 8)).trans ?_
  refine (lg_ (v:=v9) (hc 9)).trans ?_
  refine (lg_ (v:=v10) (hc 10)).trans ?_
  refine (lg_ (v:=v11) (hc 11)).trans ?_
  refine (lg_ (v:=v12) (hc 12)).trans ?_
  refine (lg_ (v:=v13) (hc 13)).trans ?_
  rfl
theorem st52_ {e:Operand→Value} {o:Oper} {p v:Operand} {W:World} {g n:Nat} {x0:Bool} {x1:Int} {x2:Int} {x3:Int} {x4:Int} {x5:Int} {x6:Int} {x7:Int} {x8:Int} {x9:Int} {x10:Int} {x11:Int} {x12:Int} {x13:Int} {x14:Int} {x15:Int} (ho:o.op=.store 52 p v) (hp:e p=.pointer (some ⟨g,0,none⟩)) (hv:e v=.agg #[.bool x0,.int .i64 x1,.int .i64 x2,.int .i64 x3,.int .i64 x4,.int .i64 x5,.int .i64 x6,.int .i64 x7,.int .i64 x8,.int .i64 x9,.int .i64 x10,.int .i64 x11,.int .i64 x12,.int .i64 x13,.int .i64 x14,.int .i64 x15]) (hb:Blk W g n) (hn:16≤n):(execOp e o).run Try.prog W=.ok .skip ((((((((((((((((W.setCell ⟨g,0,none⟩ (.bool x0)).setCell ⟨g,1,none⟩ (.int .i64 x1)).setCell ⟨g,2,none⟩ (.int .i64 x2)).setCell ⟨g,3,none⟩ (.int .i64 x3)).setCell ⟨g,4,none⟩ (.int .i64 x4)).setCell ⟨g,5,none⟩ (.int .i64 x5)).setCell ⟨g,6,none⟩ (.int .i64 x6)).setCell ⟨g,7,none⟩ (.int .i64 x7)).setCell ⟨g,8,none⟩ (.int .i64 x8)).setCell ⟨g,9,none⟩ (.int .i64 x9)).setCell ⟨g,10,none⟩ (.int .i64 x10)).setCell ⟨g,11,none⟩ (.int .i64 x11)).setCell ⟨g,12,none⟩ (.int .i64 x12)).setCell ⟨g,13,none⟩ (.int .i64 x13)).setCell ⟨g,14,none⟩ (.int .i64 x14)).setCell ⟨g,15,none⟩ (.int .i64 x15)):=by
  have hu:=Try.underlying52
  obtain ⟨o1,o2,o3,o4,o5,o6⟩:=o
  dsimp only at ho
  subst ho
  go_simp
  change Result.andThen ((stored Try.prog W ⟨g,0,none⟩ (.bool x0) .plain).andThen fun _ w=>(stored Try.prog w ⟨g,1,none⟩ (.int .i64 x1) .plain).andThen fun _ w=>(stored Try.prog w ⟨g,2,none⟩ (.int .i64 x2) .plain).andThen fun _ w=>(stored Try.prog w ⟨g,3,none⟩ (.int .i64 x3) .plain).andThen fun _ w=>(stored Try.prog w ⟨g,4,none⟩ (.int .i64 x4) .plain).andThen fun _ w=>(stored Try.prog w ⟨g,5,none⟩ (.int .i64 x5) .plain).andThen fun _ w=>(stored Try.prog w ⟨g,6,none⟩ (.int .i64 x6) .plain).andThen fun _ w=>(stored Try.prog w ⟨g,7,none⟩ (.int .i64 x7) .plain).andThen fun _ w=>(stored Try.prog w ⟨g,8,none⟩ (.int .i64 x8) .plain).andThen fun _ w=>(stored Try.prog w ⟨g,9,none⟩ (.int .i64 x9) .plain).andThen fun _ w=>(stored Try.prog w ⟨g,10,none⟩ (.int .i64 x10) .plain).andThen fun _ w=>(stored Try.prog w ⟨g,11,none⟩ (.int .i64 x11) .plain).andThen fun _ w=>(stored Try.prog w ⟨g,12,none⟩ (.int .i64 x12) .plain).andThen fun _ w=>(stored Try.prog w ⟨g,13,none⟩ (.int .i64 x13) .plain).andThen fun _ w=>(stored Try.prog w ⟨g,14,none⟩ (.int .i64 x14) .plain).andThen fun _ w=>stored Try.prog w ⟨g,15,none⟩ (.int .i64 x15) .plain) (fun _ w=>Result.ok Next.skip w)=_
  refine ao_ (a:=()) (w:=((((((((((((((((W.setCell ⟨g,0,none⟩ (.bool x0)).setCell ⟨g,1,none⟩ (.int .i64 x1)).setCell ⟨g,2,none⟩ (.int .i64 x2)).setCell ⟨g,3,none⟩ (.int .i64 x3)).setCell ⟨g,4,none⟩ (.int .i64 x4)).setCell ⟨g,5,none⟩ (.int .i64 x5)).setCell ⟨g,6,none⟩ (.int .i64 x6)).setCell ⟨g,7,none⟩ (.int .i64 x7)).setCell ⟨g,8,none⟩ (.int .i64 x8)).setCell ⟨g,9,none⟩ (.int .i64 x9)).setCell ⟨g,10,none⟩ (.int .i64 x10)).setCell ⟨g,11,none⟩ (.int .i64 x11)).setCell ⟨g,12,none⟩ (.int .i64 x12)).setCell ⟨g,13,none⟩ (.int .i64 x13)).setCell ⟨g,14,none⟩ (.int .i64 x14)).setCell ⟨g,15,none⟩ (.int .i64 x15))) ?_ rfl
  have h:=hb
  refine (lf_ h (show 0 < n by omega)).trans ?_
  replace h:=h.put (b:=g) (i:=0) (v:=.bool x0)
  refine (lf_ h (show 1 < n by omega)).trans ?_
  replace h:=h.put (b:=g) (i:=1) (v:=.int .i64 x1)
  refine (lf_ h (show 2 < n by omega)).trans ?_
  replace h:=h.put (b:=g) (i:=2) (v:=.int .i64 x2)
  refine (lf_ h (show 3 < n by omega)).trans ?_
  replace h:=h.put (b:=g) (i:=3) (v:=.int .i64 x3)
  refine (lf_ h (show 4 < n by omega)).trans ?_
  replace h:=h.put (b:=g) (i:=4) (v:=.int .i64 x4)
  refine (lf_ h (show 5 < n by omega)).trans ?_
  replace h:=h.put (b:=g) (i:=5) (v:=.int .i64 x5)
  refine (lf_ h (show 6 < n by omega)).trans ?_
  replace h:=h.put (b:=g) (i:=6) (v:=.int .i64 x6)
  refine (lf_ h (show 7 < n by omega)).trans ?_
  replace h:=h.put (b:=g) (i:=7) (v:=.int .i64 x7)
  refine (lf_ h (show 8 < n by omega)).trans ?_
  replace h:=h.put (b:=g) (i:=8) (v:=.int .i64 x8)
  refine (lf_ h (show 9 < n by omega)).trans ?_
  replace h:=h.put (b:=g) (i:=9) (v:=.int .i64 x9)
  refine (lf_ h (show 10 < n by omega)).trans ?_
  replace h:=h.put (b:=g) (i:=10) (v:=.int .i64 x10)
  refine (lf_ h (show 11 < n by omega)).trans ?_
  replace h:=h.put (b:=g) (i:=11) (v:=.int .i64 x11)
  refine (lf_ h (show 12 < n by omega)).trans ?_
  replace h:=h.put (b:=g) (i:=12) (v:=.int .i64 x12)
  refine (lf_ h (show 13 < n by omega)).trans ?_
  replace h:=h.put (b:=g) (i:=13) (v:=.int .i64 x13)
  refine (lf_ h (show 14 < n by omega)).trans ?_
  replace h:=h.put (b:=g) (i:=14) (v:=.int .i64 x14)
  exact lf0_ h (show 15 < n by omega)
theorem ld52_ {e:Operand→Value} {o:Oper} {p:Operand} {W:World} {g:Nat} {tt:TypeId} {v0 v1 v2 v3 v4 v5 v6 v7 v8 v9 v10 v11 v12 v13 v14 v15:Value} (ho:o.op=.load 52 p) (hp:e p=.pointer (some ⟨g,0,none⟩)) (hb:W.heap[g]?=some (.cells #[v0,v1,v2,v3,v4,v5,v6,v7,v8,v9,v10,v11,v12,v13,v14,v15] tt (0,0))):(execOp e o).run Try.prog W=.ok (.value (.agg #[v0,v1,v2,v3,v4,v5,v6,v7,v8,v9,v10,v11,v12,v13,v14,v15])) W:=by
  have hu:=Try.underlying52
  obtain ⟨o1,o2,o3,o4,o5,o6⟩:=o
  dsimp only at ho
  subst ho
  have hc:=fun i=>qi_ hb i
  clear hb
  revert hc
  go_simp
  intro hc
  change Result.andThen (Result.andThen ((ldd Try.prog W ⟨g,0,none⟩ .plain).andThen fun a0 w=>(ldd Try.prog w ⟨g,1,none⟩ .plain).andThen fun a1 w=>(ldd Try.prog w ⟨g,2,none⟩ .plain).andThen fun a2 w=>(ldd Try.prog w ⟨g,3,none⟩ .plain).andThen fun a3 w=>(ldd Try.prog w ⟨g,4,none⟩ .plain).andThen fun a4 w=>(ldd Try.prog w ⟨g,5,none⟩ .plain).andThen fun a5 w=>(ldd Try.prog w ⟨g,6,none⟩ .plain).andThen fun a6 w=>(ldd Try.prog w ⟨g,7,none⟩ .plain).andThen fun a7 w=>(ldd Try.prog w ⟨g,8,none⟩ .plain).andThen fun a8 w=>(ldd Try.prog w ⟨g,9,none⟩ .plain).andThen fun a9 w=>(ldd Try.prog w ⟨g,10,none⟩ .plain).andThen fun a10 w=>(ldd Try.prog w ⟨g,11,none⟩ .plain).andThen fun a11 w=>(ldd Try.prog w ⟨g,12,none⟩ .plain).andThen fun a12 w=>(ldd Try.prog w ⟨g,13,none⟩ .plain).andThen fun a13 w=>(ldd Try.prog w ⟨g,14,none⟩ .plain).andThen fun a14 w=>(ldd Try.prog w ⟨g,15,none⟩ .plain).andThen fun a15 w=>Result.ok #[a0,a1,a2,a3,a4,a5,a6,a7,a8,a9,a10,a11,a12,a13,a14,a15] w) (fun a w=>Result.ok (Value.agg a) w)) (fun a w=>Result.ok (Next.value a) w)=_
  refine ao_ (a:=Value.agg #[v0,v1,v2,v3,v4,v5,v6,v7,v8,v9,v10,v11,v12,v13,v14,v15]) (w:=W) (ao_ (a:=#[v0,v1,v2,v3,v4,v5,v6,v7,v8,v9,v10,v11,v12,v13,v14,v15]) (w:=W) ?_ rfl) rfl
  refine (lg_ (v:=v0) (hc 0)).trans ?_
  refine (lg_ (v:=v1) (hc 1)).trans ?_
  refine (lg_ (v:=v2) (hc 2)).trans ?_
  refine (lg_ (v:=v3) (hc 3)).trans ?_
  refine (lg_ (v:=v4) (hc 4)).trans ?_
  refine (lg_ (v:=v5) (hc 5)).trans ?_
  refine (lg_ (v:=v6) (hc 6)).trans ?_
  refine (lg_ (v:=v7) (hc 7)).trans ?_
  refine (lg_ (v:=v8) (hc 8)).trans ?_
  refine (lg_ (v:=v9) (hc 9)).trans ?_
  refine (lg_ (v:=v10) (hc 10)).trans ?_
  refine (lg_ (v:=v11) (hc 11)).trans ?_
  refine (lg_ (v:=v12) (hc 12)).trans ?_
  refine (lg_ (v:=v13) (hc 13)).trans ?_
  refine (lg_ (v:=v14) (hc 14)).trans ?_
  refine (lg_ (v:=v15) (hc 15)).trans ?_
  rfl
theorem sa30_ {ops:Array Oper} {rest:List Oper} {o:Oper} {a:Act} {Q:Exit→Act→World→Prop} {W w1:World} {p:Tmp} {v:Operand} (h:wpList Try.prog ops Q rest a w1) (_ho:o.op=.store 30 (.tmp p) v:=by with_reducible rfl) (hgd:Region.wanted o (yielded ops a.tmps)=true:=by rfl) (hN:o.dst=none:=by rfl) (hrun:(execOp a.eval o).run Try.prog W=.ok .skip w1:=by first | exact st30_ rfl rfl rfl (bB_ (Aside0.out (by assumption))) (of_decide_eq_true (by kernel_rfl))):wpList Try.prog ops Q (o :: rest) a W:=stw_ hgd hN hrun h
theorem la30_ {ops:Array Oper} {rest:List Oper} {o:Oper} {a:Act} {Q:Exit→Act→World→Prop} {W:World} {p:Tmp} {x:Value} (h:wpList Try.prog ops Q rest (a.put o.dst x) W) (_ho:o.op=.load 30 (.tmp p):=by with_reducible rfl) (hgd:Region.wanted o (yielded ops a.tmps)=true:=by rfl) (hrun:(execOp a.eval o).run Try.prog W=.ok (.value x) W:=by first | exact ld30_ rfl rfl (pL_ (Aside0.out (by assumption)))):wpList Try.prog ops Q (o :: rest) a W:=ldw_ hgd hrun h
theorem sa32_ {ops:Array Oper} {rest:List Oper} {o:Oper} {a:Act} {Q:Exit→Act→World→Prop} {W w1:World} {p:Tmp} {v:Operand} (h:wpList Try.prog ops Q rest a w1) (_ho:o.op=.store 32 (.tmp p) v:=by with_reducible rfl) (hgd:Region.wanted o (yielded ops a.tmps)=true:=by rfl) (hN:o.dst=none:=by rfl) (hrun:(execOp a.eval o).run Try.prog W=.ok .skip w1:=by first | exact st32_ rfl rfl rfl (bB_ (Aside0.out (by assumption))) (of_decide_eq_true (by kernel_rfl))):wpList Try.prog ops Q (o :: rest) a W:=stw_ hgd hN hrun h
theorem la32_ {ops:Array Oper} {rest:List Oper} {o:Oper} {a:Act} {Q:Exit→Act→World→Prop} {W:World} {p:Tmp} {x:Value} (h:wpList Try.prog ops Q rest (a.put o.dst x) W) (_ho:o.op=.load 32 (.tmp p):=by with_reducible rfl) (hgd:Region.wanted o (yielded ops a.tmps)=true:=by rfl) (hrun:(execOp a.eval o).run Try.prog W=.ok (.value x) W:=by first | exact ld32_ rfl rfl (pL_ (Aside0.out (by assumption)))):wpList Try.prog ops Q (o :: rest) a W:=ldw_ hgd hrun h
theorem sa52_ {ops:Array Oper} {rest:List Oper} {o:Oper} {a:Act} {Q:Exit→Act→World→Prop} {W w1:World} {p:Tmp} {v:Operand} (h:wpList Try.prog ops Q rest a w1) (_ho:o.op=.store 52 (.tmp p) v:=by with_reducible rfl) (hgd:Region.wanted o (yielded ops a.tmps)=true:=by rfl) (hN:o.dst=none:=by rfl) (hrun:(execOp a.eval o).run Try.prog W=.ok .skip w1:=by first | exact st52_ rfl rfl rfl (bB_ (Aside0.out (by assumption))) (of_decide_eq_true (by kernel_rfl))):wpList Try.prog ops Q (o :: rest) a W:=stw_ hgd hN hrun h
theorem la52_ {ops:Array Oper} {rest:List Oper} {o:Oper} {a:Act} {Q:Exit→Act→World→Prop} {W:World} {p:Tmp} {x:Value} (h:wpList Try.prog ops Q rest (a.put o.dst x) W) (_ho:o.op=.load 52 (.tmp p):=by with_reducible rfl) (hgd:Region.wanted o (yielded ops a.tmps)=true:=by rfl) (hrun:(execOp a.eval o).run Try.prog W=.ok (.value x) W:=by first | exact ld52_ rfl rfl (pL_ (Aside0.out (by assumption)))):wpList Try.prog ops Q (o :: rest) a W:=ldw_ hgd hrun h
theorem sn32_ {e:Operand→Value} {o:Oper} {p v:Operand} {W:World} {g n:Nat} {x0:Int} {x1:Int} {x2:Int} {x3:Int} {x4:Int} {x5:Int} {x6:Int} {x7:Int} {x8:Int} {x9:Int} {x10:Int} {x11:Int} {x12:Int} {x13:Int} (ho:o.op=.store 32 p v) (hp:e p=.pointer (some ⟨g,0,none⟩)) (hv:e v=.agg #[.int .i64 x0,.int .i64 x1,.int .i64 x2,.int .i64 x3,.int .i64 x4,.int .i64 x5,.int .i64 x6,.int .i64 x7,.int .i64 x8,.int .i64 x9,.int .i64 x10,.int .i64 x11,.int .i64 x12,.int .i64 x13]) (hb:Blk W g n) (hn:14≤n):(execOp e o).run Try.prog W=.ok .skip (putN W g 0 [.int .i64 x0,.int .i64 x1,.int .i64 x2,.int .i64 x3,.int .i64 x4,.int .i64 x5,.int .i64 x6,.int .i64 x7,.int .i64 x8,.int .i64 x9,.int .i64 x10,.int .i64 x11,.int .i64 x12,.int .i64 x13]):=st32_ ho hp hv hb hn
set_option linter.unusedVariables false
theorem ld28o0_ {e:Operand→Value} {o:Oper} {p:Operand} {W:World} {g:Nat} {tt:TypeId} {cs:Array Value} {v0 v1 v2 v3 v4:Value} (ho:o.op=.load 28 p) (hp:e p=.pointer (some ⟨g,0,none⟩)) (hb:W.heap[g]?=some (.cells cs tt (0,0))) (e0:cs[0]?=some v0) (e1:cs[1]?=some v1) (e2:cs[2]?=some v2) (e3:cs[3]?=some v3) (e4:cs[4]?=some v4):(execOp e o).run Try.prog W=.ok (.value (.agg #[v0,v1,v2,v3,v4])) W:=by
  have hu:=Try.underlying28
  obtain ⟨o1,o2,o3,o4,o5,o6⟩:=o
  dsimp only at ho
  subst ho
  have h0:=(qi_ hb 0).trans e0
  have h1:=(qi_ hb 1).trans e1
  have h2:=(qi_ hb 2).trans e2
  have h3:=(qi_ hb 3).trans e3
  have h4:=(qi_ hb 4).trans e4
  go_simp
theorem st28o0_ {e:Operand→Value} {o:Oper} {p v:Operand} {W:World} {g n:Nat} {x0:Int} {x1:Int} {x2:Int} {x3:Int} {x4:Int} (ho:o.op=.store 28 p v) (hp:e p=.pointer (some ⟨g,0,none⟩)) (hv:e v=.agg #[.int .i64 x0,.int .i64 x1,.int .i64 x2,.int .i64 x3,.int .i64 x4]) (hb:Blk W g n) (hn:5≤n):(execOp e o).run Try.prog W=.ok .skip (((((W.setCell ⟨g,0,none⟩ (.int .i64 x0)).setCell ⟨g,1,none⟩ (.int .i64 x1)).setCell ⟨g,2,none⟩ (.int .i64 x2)).setCell ⟨g,3,none⟩ (.int .i64 x3)).setCell ⟨g,4,none⟩ (.int .i64 x4)):=by
  have hu:=Try.underlying28
  obtain ⟨o1,o2,o3,o4,o5,o6⟩:=o
  dsimp only at ho
  subst ho
  go_simp
  change Result.andThen ((stored Try.prog W ⟨g,0,none⟩ (.int .i64 x0) .plain).andThen fun _ w=>(stored Try.prog w ⟨g,1,none⟩ (.int .i64 x1) .plain).andThen fun _ w=>(stored Try.prog w ⟨g,2,none⟩ (.int .i64 x2) .plain).andThen fun _ w=>(stored Try.prog w ⟨g,3,none⟩ (.int .i64 x3) .plain).andThen fun _ w=>stored Try.prog w ⟨g,4,none⟩ (.int .i64 x4) .plain) (fun _ w=>Result.ok Next.skip w)=_
  refine ao_ (a:=()) (w:=(((((W.setCell ⟨g,0,none⟩ (.int .i64 x0)).setCell ⟨g,1,none⟩ (.int .i64 x1)).setCell ⟨g,2,none⟩ (.int .i64 x2)).setCell ⟨g,3,none⟩ (.int .i64 x3)).setCell ⟨g,4,none⟩ (.int .i64 x4))) ?_ rfl
  have h:=hb
  refine (lf_ h (show 0 < n by omega)).trans ?_
  replace h:=h.put (b:=g) (i:=0) (v:=.int .i64 x0)
  refine (lf_ h (show 1 < n by omega)).trans ?_
  replace h:=h.put (b:=g) (i:=1) (v:=.int .i64 x1)
  refine (lf_ h (show 2 < n by omega)).trans ?_
  replace h:=h.put (b:=g) (i:=2) (v:=.int .i64 x2)
  refine (lf_ h (show 3 < n by omega)).trans ?_
  replace h:=h.put (b:=g) (i:=3) (v:=.int .i64 x3)
  exact lf0_ h (show 4 < n by omega)
theorem sa28o0_ {ops:Array Oper} {rest:List Oper} {o:Oper} {a:Act} {Q:Exit→Act→World→Prop} {W w1:World} {p:Tmp} {v:Operand} (h:wpList Try.prog ops Q rest a w1) (_ho:o.op=.store 28 (.tmp p) v:=by with_reducible rfl) (hgd:Region.wanted o (yielded ops a.tmps)=true:=by rfl) (hN:o.dst=none:=by rfl) (hrun:(execOp a.eval o).run Try.prog W=.ok .skip w1:=by exact st28o0_ rfl rfl rfl (bB_ (Aside0.out (by assumption))) (of_decide_eq_true (by kernel_rfl))):wpList Try.prog ops Q (o :: rest) a W:=stw_ hgd hN hrun h
theorem la28o0_ {ops:Array Oper} {rest:List Oper} {o:Oper} {a:Act} {Q:Exit→Act→World→Prop} {W:World} {p:Tmp} {x:Value} (h:wpList Try.prog ops Q rest (a.put o.dst x) W) (_ho:o.op=.load 28 (.tmp p):=by with_reducible rfl) (hgd:Region.wanted o (yielded ops a.tmps)=true:=by rfl) (hrun:(execOp a.eval o).run Try.prog W=.ok (.value x) W:=by exact ld28o0_ rfl rfl (pL_ (Aside0.out (by assumption))) (by rfl) (by rfl) (by rfl) (by rfl) (by rfl)):wpList Try.prog ops Q (o :: rest) a W:=ldw_ hgd hrun h
theorem ld28o1_ {e:Operand→Value} {o:Oper} {p:Operand} {W:World} {g:Nat} {tt:TypeId} {cs:Array Value} {v0 v1 v2 v3 v4:Value} (ho:o.op=.load 28 p) (hp:e p=.pointer (some ⟨g,1,none⟩)) (hb:W.heap[g]?=some (.cells cs tt (0,0))) (e0:cs[1]?=some v0) (e1:cs[2]?=some v1) (e2:cs[3]?=some v2) (e3:cs[4]?=some v3) (e4:cs[5]?=some v4):(execOp e o).run Try.prog W=.ok (.value (.agg #[v0,v1,v2,v3,v4])) W:=by
  have hu:=Try.underlying28
  obtain ⟨o1,o2,o3,o4,o5,o6⟩:=o
  dsimp only at ho
  subst ho
  have h0:=(qi_ hb 1).trans e0
  have h1:=(qi_ hb 2).trans e1
  have h2:=(qi_ hb 3).trans e2
  have h3:=(qi_ hb 4).trans e3
  have h4:=(qi_ hb 5).trans e4
  go_simp
theorem st28o1_ {e:Operand→Value} {o:Oper} {p v:Operand} {W:World} {g n:Nat} {x0:Int} {x1:Int} {x2:Int} {x3:Int} {x4:Int} (ho:o.op=.store 28 p v) (hp:e p=.pointer (some ⟨g,1,none⟩)) (hv:e v=.agg #[.int .i64 x0,.int .i64 x1,.int .i64 x2,.int .i64 x3,.int .i64 x4]) (hb:Blk W g n) (hn:6≤n):(execOp e o).run Try.prog W=.ok .skip (((((W.setCell ⟨g,1,none⟩ (.int .i64 x0)).setCell ⟨g,2,none⟩ (.int .i64 x1)).setCell ⟨g,3,none⟩ (.int .i64 x2)).setCell ⟨g,4,none⟩ (.int .i64 x3)).setCell ⟨g,5,none⟩ (.int .i64 x4)):=by
  have hu:=Try.underlying28
  obtain ⟨o1,o2,o3,o4,o5,o6⟩:=o
  dsimp only at ho
  subst ho
  go_simp
  change Result.andThen ((stored Try.prog W ⟨g,1,none⟩ (.int .i64 x0) .plain).andThen fun _ w=>(stored Try.prog w ⟨g,2,none⟩ (.int .i64 x1) .plain).andThen fun _ w=>(stored Try.prog w ⟨g,3,none⟩ (.int .i64 x2) .plain).andThen fun _ w=>(stored Try.prog w ⟨g,4,none⟩ (.int .i64 x3) .plain).andThen fun _ w=>stored Try.prog w ⟨g,5,none⟩ (.int .i64 x4) .plain) (fun _ w=>Result.ok Next.skip w)=_
  refine ao_ (a:=()) (w:=(((((W.setCell ⟨g,1,none⟩ (.int .i64 x0)).setCell ⟨g,2,none⟩ (.int .i64 x1)).setCell ⟨g,3,none⟩ (.int .i64 x2)).setCell ⟨g,4,none⟩ (.int .i64 x3)).setCell ⟨g,5,none⟩ (.int .i64 x4))) ?_ rfl
  have h:=hb
  refine (lf_ h (show 1 < n by omega)).trans ?_
  replace h:=h.put (b:=g) (i:=1) (v:=.int .i64 x0)
  refine (lf_ h (show 2 < n by omega)).trans ?_
  replace h:=h.put (b:=g) (i:=2) (v:=.int .i64 x1)
  refine (lf_ h (show 3 < n by omega)).trans ?_
  replace h:=h.put (b:=g) (i:=3) (v:=.int .i64 x2)
  refine (lf_ h (show 4 < n by omega)).trans ?_
  replace h:=h.put (b:=g) (i:=4) (v:=.int .i64 x3)
  exact lf0_ h (show 5 < n by omega)
theorem sa28o1_ {ops:Array Oper} {rest:List Oper} {o:Oper} {a:Act} {Q:Exit→Act→World→Prop} {W w1:World} {p:Tmp} {v:Operand} (h:wpList Try.prog ops Q rest a w1) (_ho:o.op=.store 28 (.tmp p) v:=by with_reducible rfl) (hgd:Region.wanted o (yielded ops a.tmps)=true:=by rfl) (hN:o.dst=none:=by rfl) (hrun:(execOp a.eval o).run Try.prog W=.ok .skip w1:=by exact st28o1_ rfl rfl rfl (bB_ (Aside0.out (by assumption))) (of_decide_eq_true (by kernel_rfl))):wpList Try.prog ops Q (o :: rest) a W:=stw_ hgd hN hrun h
theorem la28o1_ {ops:Array Oper} {rest:List Oper} {o:Oper} {a:Act} {Q:Exit→Act→World→Prop} {W:World} {p:Tmp} {x:Value} (h:wpList Try.prog ops Q rest (a.put o.dst x) W) (_ho:o.op=.load 28 (.tmp p):=by with_reducible rfl) (hgd:Region.wanted o (yielded ops a.tmps)=true:=by rfl) (hrun:(execOp a.eval o).run Try.prog W=.ok (.value x) W:=by exact ld28o1_ rfl rfl (pL_ (Aside0.out (by assumption))) (by rfl) (by rfl) (by rfl) (by rfl) (by rfl)):wpList Try.prog ops Q (o :: rest) a W:=ldw_ hgd hrun h
theorem ld28o5_ {e:Operand→Value} {o:Oper} {p:Operand} {W:World} {g:Nat} {tt:TypeId} {cs:Array Value} {v0 v1 v2 v3 v4:Value} (ho:o.op=.load 28 p) (hp:e p=.pointer (some ⟨g,5,none⟩)) (hb:W.heap[g]?=some (.cells cs tt (0,0))) (e0:cs[5]?=some v0) (e1:cs[6]?=some v1) (e2:cs[7]?=some v2) (e3:cs[8]?=some v3) (e4:cs[9]?=some v4):(execOp e o).run Try.prog W=.ok (.value (.agg #[v0,v1,v2,v3,v4])) W:=by
  have hu:=Try.underlying28
  obtain ⟨o1,o2,o3,o4,o5,o6⟩:=o
  dsimp only at ho
  subst ho
  have h0:=(qi_ hb 5).trans e0
  have h1:=(qi_ hb 6).trans e1
  have h2:=(qi_ hb 7).trans e2
  have h3:=(qi_ hb 8).trans e3
  have h4:=(qi_ hb 9).trans e4
  go_simp
theorem st28o5_ {e:Operand→Value} {o:Oper} {p v:Operand} {W:World} {g n:Nat} {x0:Int} {x1:Int} {x2:Int} {x3:Int} {x4:Int} (ho:o.op=.store 28 p v) (hp:e p=.pointer (some ⟨g,5,none⟩)) (hv:e v=.agg #[.int .i64 x0,.int .i64 x1,.int .i64 x2,.int .i64 x3,.int .i64 x4]) (hb:Blk W g n) (hn:10≤n):(execOp e o).run Try.prog W=.ok .skip (((((W.setCell ⟨g,5,none⟩ (.int .i64 x0)).setCell ⟨g,6,none⟩ (.int .i64 x1)).setCell ⟨g,7,none⟩ (.int .i64 x2)).setCell ⟨g,8,none⟩ (.int .i64 x3)).setCell ⟨g,9,none⟩ (.int .i64 x4)):=by
  have hu:=Try.underlying28
  obtain ⟨o1,o2,o3,o4,o5,o6⟩:=o
  dsimp only at ho
  subst ho
  go_simp
  change Result.andThen ((stored Try.prog W ⟨g,5,none⟩ (.int .i64 x0) .plain).andThen fun _ w=>(stored Try.prog w ⟨g,6,none⟩ (.int .i64 x1) .plain).andThen fun _ w=>(stored Try.prog w ⟨g,7,none⟩ (.int .i64 x2) .plain).andThen fun _ w=>(stored Try.prog w ⟨g,8,none⟩ (.int .i64 x3) .plain).andThen fun _ w=>stored Try.prog w ⟨g,9,none⟩ (.int .i64 x4) .plain) (fun _ w=>Result.ok Next.skip w)=_
  refine ao_ (a:=()) (w:=(((((W.setCell ⟨g,5,none⟩ (.int .i64 x0)).setCell ⟨g,6,none⟩ (.int .i64 x1)).setCell ⟨g,7,none⟩ (.int .i64 x2)).setCell ⟨g,8,none⟩ (.int .i64 x3)).setCell ⟨g,9,none⟩ (.int .i64 x4))) ?_ rfl
  have h:=hb
  refine (lf_ h (show 5 < n by omega)).trans ?_
  replace h:=h.put (b:=g) (i:=5) (v:=.int .i64 x0)
  refine (lf_ h (show 6 < n by omega)).trans ?_
  replace h:=h.put (b:=g) (i:=6) (v:=.int .i64 x1)
  refine (lf_ h (show 7 < n by omega)).trans ?_
  replace h:=h.put (b:=g) (i:=7) (v:=.int .i64 x2)
  refine (lf_ h (show 8 < n by omega)).trans ?_
  replace h:=h.put (b:=g) (i:=8) (v:=.int .i64 x3)
  exact lf0_ h (show 9 < n by omega)
theorem sa28o5_ {ops:Array Oper} {rest:List Oper} {o:Oper} {a:Act} {Q:Exit→Act→World→Prop} {W w1:World} {p:Tmp} {v:Operand} (h:wpList Try.prog ops Q rest a w1) (_ho:o.op=.store 28 (.tmp p) v:=by with_reducible rfl) (hgd:Region.wanted o (yielded ops a.tmps)=true:=by rfl) (hN:o.dst=none:=by rfl) (hrun:(execOp a.eval o).run Try.prog W=.ok .skip w1:=by exact st28o5_ rfl rfl rfl (bB_ (Aside0.out (by assumption))) (of_decide_eq_true (by kernel_rfl))):wpList Try.prog ops Q (o :: rest) a W:=stw_ hgd hN hrun h
theorem la28o5_ {ops:Array Oper} {rest:List Oper} {o:Oper} {a:Act} {Q:Exit→Act→World→Prop} {W:World} {p:Tmp} {x:Value} (h:wpList Try.prog ops Q rest (a.put o.dst x) W) (_ho:o.op=.load 28 (.tmp p):=by with_reducible rfl) (hgd:Region.wanted o (yielded ops a.tmps)=true:=by rfl) (hrun:(execOp a.eval o).run Try.prog W=.ok (.value x) W:=by exact ld28o5_ rfl rfl (pL_ (Aside0.out (by assumption))) (by rfl) (by rfl) (by rfl) (by rfl) (by rfl)):wpList Try.prog ops Q (o :: rest) a W:=ldw_ hgd hrun h
theorem ld28o6_ {e:Operand→Value} {o:Oper} {p:Operand} {W:World} {g:Nat} {tt:TypeId} {cs:Array Value} {v0 v1 v2 v3 v4:Value} (ho:o.op=.load 28 p) (hp:e p=.pointer (some ⟨g,6,none⟩)) (hb:W.heap[g]?=some (.cells cs tt (0,0))) (e0:cs[6]?=some v0) (e1:cs[7]?=some v1) (e2:cs[8]?=some v2) (e3:cs[9]?=some v3) (e4:cs[10]?=some v4):(execOp e o).run Try.prog W=.ok (.value (.agg #[v0,v1,v2,v3,v4])) W:=by
  have hu:=Try.underlying28
  obtain ⟨o1,o2,o3,o4,o5,o6⟩:=o
  dsimp only at ho
  subst ho
  have h0:=(qi_ hb 6).trans e0
  have h1:=(qi_ hb 7).trans e1
  have h2:=(qi_ hb 8).trans e2
  have h3:=(qi_ hb 9).trans e3
  have h4:=(qi_ hb 10).trans e4
  go_simp
theorem st28o6_ {e:Operand→Value} {o:Oper} {p v:Operand} {W:World} {g n:Nat} {x0:Int} {x1:Int} {x2:Int} {x3:Int} {x4:Int} (ho:o.op=.store 28 p v) (hp:e p=.pointer (some ⟨g,6,none⟩)) (hv:e v=.agg #[.int .i64 x0,.int .i64 x1,.int .i64 x2,.int .i64 x3,.int .i64 x4]) (hb:Blk W g n) (hn:11≤n):(execOp e o).run Try.prog W=.ok .skip (((((W.setCell ⟨g,6,none⟩ (.int .i64 x0)).setCell ⟨g,7,none⟩ (.int .i64 x1)).setCell ⟨g,8,none⟩ (.int .i64 x2)).setCell ⟨g,9,none⟩ (.int .i64 x3)).setCell ⟨g,10,none⟩ (.int .i64 x4)):=by
  have hu:=Try.underlying28
  obtain ⟨o1,o2,o3,o4,o5,o6⟩:=o
  dsimp only at ho
  subst ho
  go_simp
  change Result.andThen ((stored Try.prog W ⟨g,6,none⟩ (.int .i64 x0) .plain).andThen fun _ w=>(stored Try.prog w ⟨g,7,none⟩ (.int .i64 x1) .plain).andThen fun _ w=>(stored Try.prog w ⟨g,8,none⟩ (.int .i64 x2) .plain).andThen fun _ w=>(stored Try.prog w ⟨g,9,none⟩ (.int .i64 x3) .plain).andThen fun _ w=>stored Try.prog w ⟨g,10,none⟩ (.int .i64 x4) .plain) (fun _ w=>Result.ok Next.skip w)=_
  refine ao_ (a:=()) (w:=(((((W.setCell ⟨g,6,none⟩ (.int .i64 x0)).setCell ⟨g,7,none⟩ (.int .i64 x1)).setCell ⟨g,8,none⟩ (.int .i64 x2)).setCell ⟨g,9,none⟩ (.int .i64 x3)).setCell ⟨g,10,none⟩ (.int .i64 x4))) ?_ rfl
  have h:=hb
  refine (lf_ h (show 6 < n by omega)).trans ?_
  replace h:=h.put (b:=g) (i:=6) (v:=.int .i64 x0)
  refine (lf_ h (show 7 < n by omega)).trans ?_
  replace h:=h.put (b:=g) (i:=7) (v:=.int .i64 x1)
  refine (lf_ h (show 8 < n by omega)).trans ?_
  replace h:=h.put (b:=g) (i:=8) (v:=.int .i64 x2)
  refine (lf_ h (show 9 < n by omega)).trans ?_
  replace h:=h.put (b:=g) (i:=9) (v:=.int .i64 x3)
  exact lf0_ h (show 10 < n by omega)
theorem sa28o6_ {ops:Array Oper} {rest:List Oper} {o:Oper} {a:Act} {Q:Exit→Act→World→Prop} {W w1:World} {p:Tmp} {v:Operand} (h:wpList Try.prog ops Q rest a w1) (_ho:o.op=.store 28 (.tmp p) v:=by with_reducible rfl) (hgd:Region.wanted o (yielded ops a.tmps)=true:=by rfl) (hN:o.dst=none:=by rfl) (hrun:(execOp a.eval o).run Try.prog W=.ok .skip w1:=by exact st28o6_ rfl rfl rfl (bB_ (Aside0.out (by assumption))) (of_decide_eq_true (by kernel_rfl))):wpList Try.prog ops Q (o :: rest) a W:=stw_ hgd hN hrun h
theorem la28o6_ {ops:Array Oper} {rest:List Oper} {o:Oper} {a:Act} {Q:Exit→Act→World→Prop} {W:World} {p:Tmp} {x:Value} (h:wpList Try.prog ops Q rest (a.put o.dst x) W) (_ho:o.op=.load 28 (.tmp p):=by with_reducible rfl) (hgd:Region.wanted o (yielded ops a.tmps)=true:=by rfl) (hrun:(execOp a.eval o).run Try.prog W=.ok (.value x) W:=by exact ld28o6_ rfl rfl (pL_ (Aside0.out (by assumption))) (by rfl) (by rfl) (by rfl) (by rfl) (by rfl)):wpList Try.prog ops Q (o :: rest) a W:=ldw_ hgd hrun h
theorem ld30o1_ {e:Operand→Value} {o:Oper} {p:Operand} {W:World} {g:Nat} {tt:TypeId} {cs:Array Value} {v0 v1 v2 v3 v4 v5 v6 v7 v8 v9 v10 v11 v12:Value} (ho:o.op=.load 30 p) (hp:e p=.pointer (some ⟨g,1,none⟩)) (hb:W.heap[g]?=some (.cells cs tt (0,0))) (e0:cs[1]?=some v0) (e1:cs[2]?=some v1) (e2:cs[3]?=some v2) (e3:cs[4]?=some v3) (e4:cs[5]?=some v4) (e5:cs[6]?=some v5) (e6:cs[7]?=some v6) (e7:cs[8]?=some v7) (e8:cs[9]?=some v8) (e9:cs[10]?=some v9) (e10:cs[11]?=some v10) (e11:cs[12]?=some v11) (e12:cs[13]?=some v12):(execOp e o).run Try.prog W=.ok (.value (.agg #[v0,v1,v2,v3,v4,v5,v6,v7,v8,v9,v10,v11,v12])) W:=by
  have hu:=Try.underlying30
  obtain ⟨o1,o2,o3,o4,o5,o6⟩:=o
  dsimp only at ho
  subst ho
  have h0:=(qi_ hb 1).trans e0
  have h1:=(qi_ hb 2).trans e1
  have h2:=(qi_ hb 3).trans e2
  have h3:=(qi_ hb 4).trans e3
  have h4:=(qi_ hb 5).trans e4
  have h5:=(qi_ hb 6).trans e5
  have h6:=(qi_ hb 7).trans e6
  have h7:=(qi_ hb 8).trans e7
  have h8:=(qi_ hb 9).trans e8
  have h9:=(qi_ hb 10).trans e9
  have h10:=(qi_ hb 11).trans e10
  have h11:=(qi_ hb 12).trans e11
  have h12:=(qi_ hb 13).trans e12
  clear hb e0 e1 e2 e3 e4 e5 e6 e7 e8 e9 e10 e11 e12
  revert h0 h1 h2 h3 h4 h5 h6 h7 h8 h9 h10 h11 h12
  go_simp
  intro h0 h1 h2 h3 h4 h5 h6 h7 h8 h9 h10 h11 h12
  change Result.andThen (Result.andThen ((ldd Try.prog W ⟨g,1,none⟩ .plain).andThen fun a0 w=>(ldd Try.prog w ⟨g,2,none⟩ .plain).andThen fun a1 w=>(ldd Try.prog w ⟨g,3,none⟩ .plain).andThen fun a2 w=>(ldd Try.prog w ⟨g,4,none⟩ .plain).andThen fun a3 w=>(ldd Try.prog w ⟨g,5,none⟩ .plain).andThen fun a4 w=>(ldd Try.prog w ⟨g,6,none⟩ .plain).andThen fun a5 w=>(ldd Try.prog w ⟨g,7,none⟩ .plain).andThen fun a6 w=>(ldd Try.prog w ⟨g,8,none⟩ .plain).andThen fun a7 w=>(ldd Try.prog w ⟨g,9,none⟩ .plain).andThen fun a8 w=>(ldd Try.prog w ⟨g,10,none⟩ .plain).andThen fun a9 w=>(ldd Try.prog w ⟨g,11,none⟩ .plain).andThen fun a10 w=>(ldd Try.prog w ⟨g,12,none⟩ .plain).andThen fun a11 w=>(ldd Try.prog w ⟨g,13,none⟩ .plain).andThen fun a12 w=>Result.ok #[a0,a1,a2,a3,a4,a5,a6,a7,a8,a9,a10,a11,a12] w) (fun a w=>Result.ok (Value.agg a) w)) (fun a w=>Result.ok (Next.value a) w)=_
  refine ao_ (a:=Value.agg #[v0,v1,v2,v3,v4,v5,v6,v7,v8,v9,v10,v11,v12]) (w:=W) (ao_ (a:=#[v0,v1,v2,v3,v4,v5,v6,v7,v8,v9,v10,v11,v12]) (w:=W) ?_ rfl) rfl
  refine (lg_ (v:=v0) h0).trans ?_
  refine (lg_ (v:=v1) h1).trans ?_
  refine (lg_ (v:=v2) h2).trans ?_
  refine (lg_ (v:=v3) h3).trans ?_
  refine (lg_ (v:=v4) h4).trans ?_
  refine (lg_ (v:=v5) h5).trans ?_
  refine (lg_ (v:=v6) h6).trans ?_
  refine (lg_ (v:=v7) h7).trans ?_
  refine (lg_ (v:=v8) h8).trans ?_
  refine (lg_ (v:=v9) h9).trans ?_
  refine (lg_ (v:=v10) h10).trans ?_
  refine (lg_ (v:=v11) h11).trans ?_
  refine (lg_ (v:=v12) h12).trans ?_
  rfl
theorem st30o1_ {e:Operand→Value} {o:Oper} {p v:Operand} {W:World} {g n:Nat} {x0:Int} {x1:Int} {x2:Int} {x3:Int} {x4:Int} {x5:Int} {x6:Int} {x7:Int} {x8:Int} {x9:Int} {x10:Int} {x11:Int} {x12:Int} (ho:o.op=.store 30 p v) (hp:e p=.pointer (some ⟨g,1,none⟩)) (hv:e v=.agg #[.int .i64 x0,.int .i64 x1,.int .i64 x2,.int .i64 x3,.int .i64 x4,.int .i64 x5,.int .i64 x6,.int .i64 x7,.int .i64 x8,.int .i64 x9,.int .i64 x10,.int .i64 x11,.int .i64 x12]) (hb:Blk W g n) (hn:14≤n):(execOp e o).run Try.prog W=.ok .skip (((((((((((((W.setCell ⟨g,1,none⟩ (.int .i64 x0)).setCell ⟨g,2,none⟩ (.int .i64 x1)).setCell ⟨g,3,none⟩ (.int .i64 x2)).setCell ⟨g,4,none⟩ (.int .i64 x3)).setCell ⟨g,5,none⟩ (.int .i64 x4)).setCell ⟨g,6,none⟩ (.int .i64 x5)).setCell ⟨g,7,none⟩ (.int .i64 x6)).setCell ⟨g,8,none⟩ (.int .i64 x7)).setCell ⟨g,9,none⟩ (.int .i64 x8)).setCell ⟨g,10,none⟩ (.int .i64 x9)).setCell ⟨g,11,none⟩ (.int .i64 x10)).setCell ⟨g,12,none⟩ (.int .i64 x11)).setCell ⟨g,13,none⟩ (.int .i64 x12)):=by
  have hu:=Try.underlying30
  obtain ⟨o1,o2,o3,o4,o5,o6⟩:=o
  dsimp only at ho
  subst ho
  go_simp
  change Result.andThen ((stored Try.prog W ⟨g,1,none⟩ (.int .i64 x0) .plain).andThen fun _ w=>(stored Try.prog w ⟨g,2,none⟩ (.int .i64 x1) .plain).andThen fun _ w=>(stored Try.prog w ⟨g,3,none⟩ (.int .i64 x2) .plain).andThen fun _ w=>(stored Try.prog w ⟨g,4,none⟩ (.int .i64 x3) .plain).andThen fun _ w=>(stored Try.prog w ⟨g,5,none⟩ (.int .i64 x4) .plain).andThen fun _ w=>(stored Try.prog w ⟨g,6,none⟩ (.int .i64 x5) .plain).andThen fun _ w=>(stored Try.prog w ⟨g,7,none⟩ (.int .i64 x6) .plain).andThen fun _ w=>(stored Try.prog w ⟨g,8,none⟩ (.int .i64 x7) .plain).andThen fun _ w=>(stored Try.prog w ⟨g,9,none⟩ (.int .i64 x8) .plain).andThen fun _ w=>(stored Try.prog w ⟨g,10,none⟩ (.int .i64 x9) .plain).andThen fun _ w=>(stored Try.prog w ⟨g,11,none⟩ (.int .i64 x10) .plain).andThen fun _ w=>(stored Try.prog w ⟨g,12,none⟩ (.int .i64 x11) .plain).andThen fun _ w=>stored Try.prog w ⟨g,13,none⟩ (.int .i64 x12) .plain) (fun _ w=>Result.ok Next.skip w)=_
  refine ao_ (a:=()) (w:=(((((((((((((W.setCell ⟨g,1,none⟩ (.int .i64 x0)).setCell ⟨g,2,none⟩ (.int .i64 x1)).setCell ⟨g,3,none⟩ (.int .i64 x2)).setCell ⟨g,4,none⟩ (.int .i64 x3)).setCell ⟨g,5,none⟩ (.int .i64 x4)).setCell ⟨g,6,none⟩ (.int .i64 x5)).setCell ⟨g,7,none⟩ (.int .i64 x6)).setCell ⟨g,8,none⟩ (.int .i64 x7)).setCell ⟨g,9,none⟩ (.int .i64 x8)).setCell ⟨g,10,none⟩ (.int .i64 x9)).setCell ⟨g,11,none⟩ (.int .i64 x10)).setCell ⟨g,12,none⟩ (.int .i64 x11)).setCell ⟨g,13,none⟩ (.int .i64 x12))) ?_ rfl
  have h:=hb
  refine (lf_ h (show 1 < n by omega)).trans ?_
  replace h:=h.put (b:=g) (i:=1) (v:=.int .i64 x0)
  refine (lf_ h (show 2 < n by omega)).trans ?_
  replace h:=h.put (b:=g) (i:=2) (v:=.int .i64 x1)
  refine (lf_ h (show 3 < n by omega)).trans ?_
  replace h:=h.put (b:=g) (i:=3) (v:=.int .i64 x2)
  refine (lf_ h (show 4 < n by omega)).trans ?_
  replace h:=h.put (b:=g) (i:=4) (v:=.int .i64 x3)
  refine (lf_ h (show 5 < n by omega)).trans ?_
  replace h:=h.put (b:=g) (i:=5) (v:=.int .i64 x4)
  refine (lf_ h (show 6 < n by omega)).trans ?_
  replace h:=h.put (b:=g) (i:=6) (v:=.int .i64 x5)
  refine (lf_ h (show 7 < n by omega)).trans ?_
  replace h:=h.put (b:=g) (i:=7) (v:=.int .i64 x6)
  refine (lf_ h (show 8 < n by omega)).trans ?_
  replace h:=h.put (b:=g) (i:=8) (v:=.int .i64 x7)
  refine (lf_ h (show 9 < n by omega)).trans ?_
  replace h:=h.put (b:=g) (i:=9) (v:=.int .i64 x8)
  refine (lf_ h (show 10 < n by omega)).trans ?_
  replace h:=h.put (b:=g) (i:=10) (v:=.int .i64 x9)
  refine (lf_ h (show 11 < n by omega)).trans ?_
  replace h:=h.put (b:=g) (i:=11) (v:=.int .i64 x10)
  refine (lf_ h (show 12 < n by omega)).trans ?_
  replace h:=h.put (b:=g) (i:=12) (v:=.int .i64 x11)
  exact lf0_ h (show 13 < n by omega)
theorem sa30o1_ {ops:Array Oper} {rest:List Oper} {o:Oper} {a:Act} {Q:Exit→Act→World→Prop} {W w1:World} {p:Tmp} {v:Operand} (h:wpList Try.prog ops Q rest a w1) (_ho:o.op=.store 30 (.tmp p) v:=by with_reducible rfl) (hgd:Region.wanted o (yielded ops a.tmps)=true:=by rfl) (hN:o.dst=none:=by rfl) (hrun:(execOp a.eval o).run Try.prog W=.ok .skip w1:=by exact st30o1_ rfl rfl rfl (bB_ (Aside0.out (by assumption))) (of_decide_eq_true (by kernel_rfl))):wpList Try.prog ops Q (o :: rest) a W:=stw_ hgd hN hrun h
theorem la30o1_ {ops:Array Oper} {rest:List Oper} {o:Oper} {a:Act} {Q:Exit→Act→World→Prop} {W:World} {p:Tmp} {x:Value} (h:wpList Try.prog ops Q rest (a.put o.dst x) W) (_ho:o.op=.load 30 (.tmp p):=by with_reducible rfl) (hgd:Region.wanted o (yielded ops a.tmps)=true:=by rfl) (hrun:(execOp a.eval o).run Try.prog W=.ok (.value x) W:=by exact ld30o1_ rfl rfl (pL_ (Aside0.out (by assumption))) (by rfl) (by rfl) (by rfl) (by rfl) (by rfl) (by rfl) (by rfl) (by rfl) (by rfl) (by rfl) (by rfl) (by rfl) (by rfl)):wpList Try.prog ops Q (o :: rest) a W:=ldw_ hgd hrun h
theorem ld32o1_ {e:Operand→Value} {o:Oper} {p:Operand} {W:World} {g:Nat} {tt:TypeId} {cs:Array Value} {v0 v1 v2 v3 v4 v5 v6 v7 v8 v9 v10 v11 v12 v13:Value} (ho:o.op=.load 32 p) (hp:e p=.pointer (some ⟨g,1,none⟩)) (hb:W.heap[g]?=some (.cells cs tt (0,0))) (e0:cs[1]?=some v0) (e1:cs[2]?=some v1) (e2:cs[3]?=some v2) (e3:cs[4]?=some v3) (e4:cs[5]?=some v4) (e5:cs[6]?=some v5) (e6:cs[7]?=some v6) (e7:cs[8]?=some v7) (e8:cs[9]?=some v8) (e9:cs[10]?=some v9) (e10:cs[11]?=some v10) (e11:cs[12]?=some v11) (e12:cs[13]?=some v12) (e13:cs[14]?=some v13):(execOp e o).run Try.prog W=.ok (.value (.agg #[v0,v1,v2,v3,v4,v5,v6,v7,v8,v9,v10,v11,v12,v13])) W:=by
  have hu:=Try.underlying32
  obtain ⟨o1,o2,o3,o4,o5,o6⟩:=o
  dsimp only at ho
  subst ho
  have h0:=(qi_ hb 1).trans e0
  have h1:=(qi_ hb 2).trans e1
  have h2:=(qi_ hb 3).trans e2
  have h3:=(qi_ hb 4).trans e3
  have h4:=(qi_ hb 5).trans e4
  have h5:=(qi_ hb 6).trans e5
  have h6:=(qi_ hb 7).trans e6
  have h7:=(qi_ hb 8).trans e7
  have h8:=(qi_ hb 9).trans e8
  have h9:=(qi_ hb 10).trans e9
  have h10:=(qi_ hb 11).trans e10
  have h11:=(qi_ hb 12).trans e11
  have h12:=(qi_ hb 13).trans e12
  have h13:=(qi_ hb 14).trans e13
  clear hb e0 e1 e2 e3 e4 e5 e6 e7 e8 e9 e10 e11 e12 e13
  revert h0 h1 h2 h3 h4 h5 h6 h7 h8 h9 h10 h11 h12 h13
  go_simp
  intro h0 h1 h2 h3 h4 h5 h6 h7 h8 h9 h10 h11 h12 h13
  change Result.andThen (Result.andThen ((ldd Try.prog W ⟨g,1,none⟩ .plain).andThen fun a0 w=>(ldd Try.prog w ⟨g,2,none⟩ .plain).andThen fun a1 w=>(ldd Try.prog w ⟨g,3,none⟩ .plain).andThen fun a2 w=>(ldd Try.prog w ⟨g,4,none⟩ .plain).andThen fun a3 w=>(ldd Try.prog w ⟨g,5,none⟩ .plain).andThen fun a4 w=>(ldd Try.prog w ⟨g,6,none⟩ .plain).andThen fun a5 w=>(ldd Try.prog w ⟨g,7,none⟩ .plain).andThen fun a6 w=>(ldd Try.prog w ⟨g,8,none⟩ .plain).andThen fun a7 w=>(ldd Try.prog w ⟨g,9,none⟩ .plain).andThen fun a8 w=>(ldd Try.prog w ⟨g,10,none⟩ .plain).andThen fun a9 w=>(ldd Try.prog w ⟨g,11,none⟩ .plain).andThen fun a10 w=>(ldd Try.prog w ⟨g,12,none⟩ .plain).andThen fun a11 w=>(ldd Try.prog w ⟨g,13,none⟩ .plain).andThen fun a12 w=>(ldd Try.prog w ⟨g,14,none⟩ .plain).andThen fun a13 w=>Result.ok #[a0,a1,a2,a3,a4,a5,a6,a7,a8,a9,a10,a11,a12,a13] w) (fun a w=>Result.ok (Value.agg a) w)) (fun a w=>Result.ok (Next.value a) w)=_
  refine ao_ (a:=Value.agg #[v0,v1,v2,v3,v4,v5,v6,v7,v8,v9,v10,v11,v12,v13]) (w:=W) (ao_ (a:=#[v0,v1,v2,v3,v4,v5,v6,v7,v8,v9,v10,v11,v12,v13]) (w:=W) ?_ rfl) rfl
  refine (lg_ (v:=v0) h0).trans ?_
  refine (lg_ (v:=v1) h1).trans ?_
  refine (lg_ (v:=v2) h2).trans ?_
  refine (lg_ (v:=v3) h3).trans ?_
  refine (lg_ (v:=v4) h4).trans ?_
  refine (lg_ (v:=v5) h5).trans ?_
  refine (lg_ (v:=v6) h6).trans ?_
  refine (lg_ (v:=v7) h7).trans ?_
  refine (lg_ (v:=v8) h8).trans ?_
  refine (lg_ (v:=v9) h9).trans ?_
  refine (lg_ (v:=v10) h10).trans ?_
  refine (lg_ (v:=v11) h11).trans ?_
  refine (lg_ (v:=v12) h12).trans ?_
  refine (lg_ (v:=v13) h13).trans ?_
  rfl
theorem st32o1_ {e:Operand→Value} {o:Oper} {p v:Operand} {W:World} {g n:Nat} {x0:Int} {x1:Int} {x2:Int} {x3:Int} {x4:Int} {x5:Int} {x6:Int} {x7:Int} {x8:Int} {x9:Int} {x10:Int} {x11:Int} {x12:Int} {x13:Int} (ho:o.op=.store 32 p v) (hp:e p=.pointer (some ⟨g,1,none⟩)) (hv:e v=.agg #[.int .i64 x0,.int .i64 x1,.int .i64 x2,.int .i64 x3,.int .i64 x4,.int .i64 x5,.int .i64 x6,.int .i64 x7,.int .i64 x8,.int .i64 x9,.int .i64 x10,.int .i64 x11,.int .i64 x12,.int .i64 x13]) (hb:Blk W g n) (hn:15≤n):(execOp e o).run Try.prog W=.ok .skip ((((((((((((((W.setCell ⟨g,1,none⟩ (.int .i64 x0)).setCell ⟨g,2,none⟩ (.int .i64 x1)).setCell ⟨g,3,none⟩ (.int .i64 x2)).setCell ⟨g,4,none⟩ (.int .i64 x3)).setCell ⟨g,5,none⟩ (.int .i64 x4)).setCell ⟨g,6,none⟩ (.int .i64 x5)).setCell ⟨g,7,none⟩ (.int .i64 x6)).setCell ⟨g,8,none⟩ (.int .i64 x7)).setCell ⟨g,9,none⟩ (.int .i64 x8)).setCell ⟨g,10,none⟩ (.int .i64 x9)).setCell ⟨g,11,none⟩ (.int .i64 x10)).setCell ⟨g,12,none⟩ (.int .i64 x11)).setCell ⟨g,13,none⟩ (.int .i64 x12)).setCell ⟨g,14,none⟩ (.int .i64 x13)):=by
  have hu:=Try.underlying32
  obtain ⟨o1,o2,o3,o4,o5,o6⟩:=o
  dsimp only at ho
  subst ho
  go_simp
  change Result.andThen ((stored Try.prog W ⟨g,1,none⟩ (.int .i64 x0) .plain).andThen fun _ w=>(stored Try.prog w ⟨g,2,none⟩ (.int .i64 x1) .plain).andThen fun _ w=>(stored Try.prog w ⟨g,3,none⟩ (.int .i64 x2) .plain).andThen fun _ w=>(stored Try.prog w ⟨g,4,none⟩ (.int .i64 x3) .plain).andThen fun _ w=>(stored Try.prog w ⟨g,5,none⟩ (.int .i64 x4) .plain).andThen fun _ w=>(stored Try.prog w ⟨g,6,none⟩ (.int .i64 x5) .plain).andThen fun _ w=>(stored Try.prog w ⟨g,7,none⟩ (.int .i64 x6) .plain).andThen fun _ w=>(stored Try.prog w ⟨g,8,none⟩ (.int .i64 x7) .plain).andThen fun _ w=>(stored Try.prog w ⟨g,9,none⟩ (.int .i64 x8) .plain).andThen fun _ w=>(stored Try.prog w ⟨g,10,none⟩ (.int .i64 x9) .plain).andThen fun _ w=>(stored Try.prog w ⟨g,11,none⟩ (.int .i64 x10) .plain).andThen fun _ w=>(stored Try.prog w ⟨g,12,none⟩ (.int .i64 x11) .plain).andThen fun _ w=>(stored Try.prog w ⟨g,13,none⟩ (.int .i64 x12) .plain).andThen fun _ w=>stored Try.prog w ⟨g,14,none⟩ (.int .i64 x13) .plain) (fun _ w=>Result.ok Next.skip w)=_
  refine ao_ (a:=()) (w:=((((((((((((((W.setCell ⟨g,1,none⟩ (.int .i64 x0)).setCell ⟨g,2,none⟩ (.int .i64 x1)).setCell ⟨g,3,none⟩ (.int .i64 x2)).setCell ⟨g,4,none⟩ (.int .i64 x3)).setCell ⟨g,5,none⟩ (.int .i64 x4)).setCell ⟨g,6,none⟩ (.int .i64 x5)).setCell ⟨g,7,none⟩ (.int .i64 x6)).setCell ⟨g,8,none⟩ (.int .i64 x7)).setCell ⟨g,9,none⟩ (.int .i64 x8)).setCell ⟨g,10,none⟩ (.int .i64 x9)).setCell ⟨g,11,none⟩ (.int .i64 x10)).setCell ⟨g,12,none⟩ (.int .i64 x11)).setCell ⟨g,13,none⟩ (.int .i64 x12)).setCell ⟨g,14,none⟩ (.int .i64 x13))) ?_ rfl
  have h:=hb
  refine (lf_ h (show 1 < n by omega)).trans ?_
  replace h:=h.put (b:=g) (i:=1) (v:=.int .i64 x0)
  refine (lf_ h (show 2 < n by omega)).trans ?_
  replace h:=h.put (b:=g) (i:=2) (v:=.int .i64 x1)
  refine (lf_ h (show 3 < n by omega)).trans ?_
  replace h:=h.put (b:=g) (i:=3) (v:=.int .i64 x2)
  refine (lf_ h (show 4 < n by omega)).trans ?_
  replace h:=h.put (b:=g) (i:=4) (v:=.int .i64 x3)
  refine (lf_ h (show 5 < n by omega)).trans ?_
  replace h:=h.put (b:=g) (i:=5) (v:=.int .i64 x4)
  refine (lf_ h (show 6 < n by omega)).trans ?_
  replace h:=h.put (b:=g) (i:=6) (v:=.int .i64 x5)
  refine (lf_ h (show 7 < n by omega)).trans ?_
  replace h:=h.put (b:=g) (i:=7) (v:=.int .i64 x6)
  refine (lf_ h (show 8 < n by omega)).trans ?_
  replace h:=h.put (b:=g) (i:=8) (v:=.int .i64 x7)
  refine (lf_ h (show 9 < n by omega)).trans ?_
  replace h:=h.put (b:=g) (i:=9) (v:=.int .i64 x8)
  refine (lf_ h (show 10 < n by omega)).trans ?_
  replace h:=h.put (b:=g) (i:=10) (v:=.int .i64 x9)
  refine (lf_ h (show 11 < n by omega)).trans ?_
  replace h:=h.put (b:=g) (i:=11) (v:=.int .i64 x10)
  refine (lf_ h (show 12 < n by omega)).trans ?_
  replace h:=h.put (b:=g) (i:=12) (v:=.int .i64 x11)
  refine (lf_ h (show 13 < n by omega)).trans ?_
  replace h:=h.put (b:=g) (i:=13) (v:=.int .i64 x12)
  exact lf0_ h (show 14 < n by omega)
theorem sa32o1_ {ops:Array Oper} {rest:List Oper} {o:Oper} {a:Act} {Q:Exit→Act→World→Prop} {W w1:World} {p:Tmp} {v:Operand} (h:wpList Try.prog ops Q rest a w1) (_ho:o.op=.store 32 (.tmp p) v:=by with_reducible rfl) (hgd:Region.wanted o (yielded ops a.tmps)=true:=by rfl) (hN:o.dst=none:=by rfl) (hrun:(execOp a.eval o).run Try.prog W=.ok .skip w1:=by exact st32o1_ rfl rfl rfl (bB_ (Aside0.out (by assumption))) (of_decide_eq_true (by kernel_rfl))):wpList Try.prog ops Q (o :: rest) a W:=stw_ hgd hN hrun h
theorem qm_ {ops:Array Oper} {rest:List Oper} {o:Oper} {a:Act} {Q:Exit→Act→World→Prop} {W:World} {p:Tmp} {x:Value} (h:wpList Try.prog ops Q rest (a.put o.dst x) W) (_ho:o.op=.load 32 (.tmp p):=by with_reducible rfl) (hgd:Region.wanted o (yielded ops a.tmps)=true:=by rfl) (hrun:(execOp a.eval o).run Try.prog W=.ok (.value x) W:=by exact ld32o1_ rfl rfl (pL_ (Aside0.out (by assumption))) (by rfl) (by rfl) (by rfl) (by rfl) (by rfl) (by rfl) (by rfl) (by rfl) (by rfl) (by rfl) (by rfl) (by rfl) (by rfl) (by rfl)):wpList Try.prog ops Q (o :: rest) a W:=ldw_ hgd hrun h
theorem lr3_ {e:Operand→Value} {o:Oper} {p:Operand} {W:World} {g i:Nat} {tt:TypeId} {cs:Array Value} {v:Value} (ho:o.op=.load 3 p) (hp:e p=.pointer (some ⟨g,i,none⟩)) (hb:W.heap[g]?=some (.cells cs tt (0,0))) (hv:cs[i]?=some v):(execOp e o).run Try.prog W=.ok (.value v) W:=by
  have hu:=Try.underlying3
  obtain ⟨o1,o2,o3,o4,o5,o6⟩:=o
  dsimp only at ho
  subst ho
  have hc:=(qi_ hb i).trans hv
  go_simp
theorem sr3_ {e:Operand→Value} {o:Oper} {p v:Operand} {W:World} {g i n:Nat} {x:Int} (ho:o.op=.store 3 p v) (hp:e p=.pointer (some ⟨g,i,none⟩)) (hv:e v=.int .i64 x) (hb:Blk W g n) (hn:i < n):(execOp e o).run Try.prog W=.ok .skip (W.setCell ⟨g,i,none⟩ (.int .i64 x)):=by
  have hu:=Try.underlying3
  obtain ⟨o1,o2,o3,o4,o5,o6⟩:=o
  dsimp only at ho
  subst ho
  go_simp
  change Result.andThen (stored Try.prog W ⟨g,i,none⟩ (.int .i64 x) .plain) (fun _ w=>Result.ok Next.skip w)=_
  exact ao_ (lf0_ hb hn) rfl
theorem lc3_ {ops:Array Oper} {rest:List Oper} {o:Oper} {a:Act} {Q:Exit→Act→World→Prop} {W:World} {p:Tmp} {x:Value} (h:wpList Try.prog ops Q rest (a.put o.dst x) W) (_ho:o.op=.load 3 (.tmp p):=by with_reducible rfl) (hgd:Region.wanted o (yielded ops a.tmps)=true:=by rfl) (hrun:(execOp a.eval o).run Try.prog W=.ok (.value x) W:=by exact lr3_ rfl rfl (pL_ (Aside0.out (by assumption))) (by rfl)):wpList Try.prog ops Q (o :: rest) a W:=ldw_ hgd hrun h
theorem sc3_ {ops:Array Oper} {rest:List Oper} {o:Oper} {a:Act} {Q:Exit→Act→World→Prop} {W w1:World} {p:Tmp} {v:Operand} (h:wpList Try.prog ops Q rest a w1) (_ho:o.op=.store 3 (.tmp p) v:=by with_reducible rfl) (hgd:Region.wanted o (yielded ops a.tmps)=true:=by rfl) (hN:o.dst=none:=by rfl) (hrun:(execOp a.eval o).run Try.prog W=.ok .skip w1:=by exact sr3_ rfl rfl rfl (bB_ (Aside0.out (by assumption))) (of_decide_eq_true (by kernel_rfl))):wpList Try.prog ops Q (o :: rest) a W:=stw_ hgd hN hrun h
theorem lr4_ {e:Operand→Value} {o:Oper} {p:Operand} {W:World} {g i:Nat} {tt:TypeId} {cs:Array Value} {v:Value} (ho:o.op=.load 4 p) (hp:e p=.pointer (some ⟨g,i,none⟩)) (hb:W.heap[g]?=some (.cells cs tt (0,0))) (hv:cs[i]?=some v):(execOp e o).run Try.prog W=.ok (.value v) W:=by
  have hu:=Try.underlying4
  obtain ⟨o1,o2,o3,o4,o5,o6⟩:=o
  dsimp only at ho
  subst ho
  have hc:=(qi_ hb i).trans hv
  go_simp
theorem sr4_ {e:Operand→Value} {o:Oper} {p v:Operand} {W:World} {g i n:Nat} {x:Bool} (ho:o.op=.store 4 p v) (hp:e p=.pointer (some ⟨g,i,none⟩)) (hv:e v=.bool x) (hb:Blk W g n) (hn:i < n):(execOp e o).run Try.prog W=.ok .skip (W.setCell ⟨g,i,none⟩ (.bool x)):=by
  have hu:=Try.underlying4
  obtain ⟨o1,o2,o3,o4,o5,o6⟩:=o
  dsimp only at ho
  subst ho
  go_simp
  change Result.andThen (stored Try.prog W ⟨g,i,none⟩ (.bool x) .plain) (fun _ w=>Result.ok Next.skip w)=_
  exact ao_ (lf0_ hb hn) rfl
theorem lc4_ {ops:Array Oper} {rest:List Oper} {o:Oper} {a:Act} {Q:Exit→Act→World→Prop} {W:World} {p:Tmp} {x:Value} (h:wpList Try.prog ops Q rest (a.put o.dst x) W) (_ho:o.op=.load 4 (.tmp p):=by with_reducible rfl) (hgd:Region.wanted o (yielded ops a.tmps)=true:=by rfl) (hrun:(execOp a.eval o).run Try.prog W=.ok (.value x) W:=by exact lr4_ rfl rfl (pL_ (Aside0.out (by assumption))) (by rfl)):wpList Try.prog ops Q (o :: rest) a W:=ldw_ hgd hrun h
theorem sc4_ {ops:Array Oper} {rest:List Oper} {o:Oper} {a:Act} {Q:Exit→Act→World→Prop} {W w1:World} {p:Tmp} {v:Operand} (h:wpList Try.prog ops Q rest a w1) (_ho:o.op=.store 4 (.tmp p) v:=by with_reducible rfl) (hgd:Region.wanted o (yielded ops a.tmps)=true:=by rfl) (hN:o.dst=none:=by rfl) (hrun:(execOp a.eval o).run Try.prog W=.ok .skip w1:=by exact sr4_ rfl rfl rfl (bB_ (Aside0.out (by assumption))) (of_decide_eq_true (by kernel_rfl))):wpList Try.prog ops Q (o :: rest) a W:=stw_ hgd hN hrun h
theorem bw24_ {e:Operand→Value} {o:Oper} {p:Operand} {W:World} {x0:Bool} {x1:Int} {x2:Int} {x3:Int} {x4:Int} {x5:Int} {x6:Int} {x7:Int} {x8:Int} {x9:Int} {x10:Int} {x11:Int} {x12:Int} {x13:Int} {x14:Int} {x15:Int} (ho:o.op=.buildSlice 24 1 #[(0,p)]) (hp:e p=.agg #[.bool x0,.int .i64 x1,.int .i64 x2,.int .i64 x3,.int .i64 x4,.int .i64 x5,.int .i64 x6,.int .i64 x7,.int .i64 x8,.int .i64 x9,.int .i64 x10,.int .i64 x11,.int .i64 x12,.int .i64 x13,.int .i64 x14,.int .i64 x15]):(execOp e o).run Try.prog W=.ok (.value (.slice (some ⟨W.heap.size,0,none⟩) 1 1)) (W.alloc (.cells #[.bool x0,.int .i64 x1,.int .i64 x2,.int .i64 x3,.int .i64 x4,.int .i64 x5,.int .i64 x6,.int .i64 x7,.int .i64 x8,.int .i64 x9,.int .i64 x10,.int .i64 x11,.int .i64 x12,.int .i64 x13,.int .i64 x14,.int .i64 x15] 52)):=by
  obtain ⟨o1,o2,o3,o4,o5,o6⟩:=o
  dsimp only at ho
  subst ho
  simp only [execOp,List.map_toArray,List.map_cons,List.map_nil,hp]
  kernel_rfl
theorem bs24_ {ops:Array Oper} {rest:List Oper} {o:Oper} {a:Act} {Q:Exit→Act→World→Prop} {W w1:World} {p:Tmp} {x:Value} (h:wpList Try.prog ops Q rest (a.put o.dst x) w1) (_ho:o.op=.buildSlice 24 1 #[(0,.tmp p)]:=by with_reducible rfl) (hgd:Region.wanted o (yielded ops a.tmps)=true:=by rfl) (hrun:(execOp a.eval o).run Try.prog W=.ok (.value x) w1:=by exact bw24_ rfl rfl):wpList Try.prog ops Q (o :: rest) a W:=evw_ hgd hrun h
theorem bd30_0 {e:Operand→Value} {o:Oper} {W:World} {x0:Int} {x1:Int} {x2:Int} {x3:Int} {x4:Int} {x5:Int} {x6:Int} {x7:Int} {x8:Int} {x9:Int} {x10:Int} (ho:o.op=.build 30 #[(0,.tmp 9),(1,.tmp 12),(2,.tmp 17)]) (h0:e (.tmp 9)=.agg #[.int .i64 x0,.int .i64 x1,.int .i64 x2,.int .i64 x3,.int .i64 x4]) (h1:e (.tmp 12)=.agg #[.int .i64 x5,.int .i64 x6,.int .i64 x7,.int .i64 x8,.int .i64 x9]) (h2:e (.tmp 17)=.int .i64 x10):(execOp e o).run Try.prog W=.ok (.value (.agg #[.int .i64 x0,.int .i64 x1,.int .i64 x2,.int .i64 x3,.int .i64 x4,.int .i64 x5,.int .i64 x6,.int .i64 x7,.int .i64 x8,.int .i64 x9,.int .i64 x10,.int .i64 0,.int .i64 0])) W:=by
  obtain ⟨o1,o2,o3,o4,o5,o6⟩:=o
  dsimp only at ho
  subst ho
  simp only [execOp,List.map_toArray,List.map_cons,List.map_nil,h0,h1,h2]
  kernel_rfl
theorem ba30_0 {ops:Array Oper} {rest:List Oper} {o:Oper} {a:Act} {Q:Exit→Act→World→Prop} {W:World} {x:Value} (h:wpList Try.prog ops Q rest (a.put o.dst x) W) (_ho:o.op=.build 30 #[(0,.tmp 9),(1,.tmp 12),(2,.tmp 17)]:=by with_reducible rfl) (hgd:Region.wanted o (yielded ops a.tmps)=true:=by rfl) (hrun:(execOp a.eval o).run Try.prog W=.ok (.value x) W:=by exact bd30_0 rfl rfl rfl rfl):wpList Try.prog ops Q (o :: rest) a W:=ldw_ hgd hrun h
theorem bd32_1 {e:Operand→Value} {o:Oper} {W:World} {x0:Int} {x1:Int} {x2:Int} {x3:Int} {x4:Int} {x5:Int} {x6:Int} {x7:Int} {x8:Int} {x9:Int} {x10:Int} {x11:Int} {x12:Int} {x13:Int} (ho:o.op=.build 32 #[(0,.tmp 5),(1,.tmp 7)]) (h0:e (.tmp 5)=.int .i64 x0) (h1:e (.tmp 7)=.agg #[.int .i64 x1,.int .i64 x2,.int .i64 x3,.int .i64 x4,.int .i64 x5,.int .i64 x6,.int .i64 x7,.int .i64 x8,.int .i64 x9,.int .i64 x10,.int .i64 x11,.int .i64 x12,.int .i64 x13]):(execOp e o).run Try.prog W=.ok (.value (.agg #[.int .i64 x0,.int .i64 x1,.int .i64 x2,.int .i64 x3,.int .i64 x4,.int .i64 x5,.int .i64 x6,.int .i64 x7,.int .i64 x8,.int .i64 x9,.int .i64 x10,.int .i64 x11,.int .i64 x12,.int .i64 x13])) W:=by
  obtain ⟨o1,o2,o3,o4,o5,o6⟩:=o
  dsimp only at ho
  subst ho
  simp only [execOp,List.map_toArray,List.map_cons,List.map_nil,h0,h1]
  kernel_rfl
theorem ba32_1 {ops:Array Oper} {rest:List Oper} {o:Oper} {a:Act} {Q:Exit→Act→World→Prop} {W:World} {x:Value} (h:wpList Try.prog ops Q rest (a.put o.dst x) W) (_ho:o.op=.build 32 #[(0,.tmp 5),(1,.tmp 7)]:=by with_reducible rfl) (hgd:Region.wanted o (yielded ops a.tmps)=true:=by rfl) (hrun:(execOp a.eval o).run Try.prog W=.ok (.value x) W:=by exact bd32_1 rfl rfl rfl):wpList Try.prog ops Q (o :: rest) a W:=ldw_ hgd hrun h
theorem bd52_2 {e:Operand→Value} {o:Oper} {W:World} {x0:Int} {x1:Int} {x2:Int} {x3:Int} {x4:Int} {x5:Int} {x6:Int} {x7:Int} {x8:Int} {x9:Int} {x10:Int} {x11:Int} {x12:Int} {x13:Int} {x14:Int} (ho:o.op=.build 52 #[(0,.const (.bool true)),(1,.tmp 35),(2,.tmp 36)]) (h0:e (.const (.bool true))=.bool true) (h1:e (.tmp 35)=.agg #[.int .i64 x0,.int .i64 x1,.int .i64 x2,.int .i64 x3,.int .i64 x4,.int .i64 x5,.int .i64 x6,.int .i64 x7,.int .i64 x8,.int .i64 x9,.int .i64 x10,.int .i64 x11,.int .i64 x12,.int .i64 x13]) (h2:e (.tmp 36)=.int .i64 x14):(execOp e o).run Try.prog W=.ok (.value (.agg #[.bool true,.int .i64 x0,.int .i64 x1,.int .i64 x2,.int .i64 x3,.int .i64 x4,.int .i64 x5,.int .i64 x6,.int .i64 x7,.int .i64 x8,.int .i64 x9,.int .i64 x10,.int .i64 x11,.int .i64 x12,.int .i64 x13,.int .i64 x14])) W:=by
  obtain ⟨o1,o2,o3,o4,o5,o6⟩:=o
  dsimp only at ho
  subst ho
  simp only [execOp,List.map_toArray,List.map_cons,List.map_nil,h0,h1,h2]
  kernel_rfl
theorem ba52_2 {ops:Array Oper} {rest:List Oper} {o:Oper} {a:Act} {Q:Exit→Act→World→Prop} {W:World} {x:Value} (h:wpList Try.prog ops Q rest (a.put o.dst x) W) (_ho:o.op=.build 52 #[(0,.const (.bool true)),(1,.tmp 35),(2,.tmp 36)]:=by with_reducible rfl) (hgd:Region.wanted o (yielded ops a.tmps)=true:=by rfl) (hrun:(execOp a.eval o).run Try.prog W=.ok (.value x) W:=by exact bd52_2 rfl rfl rfl rfl):wpList Try.prog ops Q (o :: rest) a W:=ldw_ hgd hrun h
theorem bd52_3 {e:Operand→Value} {o:Oper} {W:World} {x0:Int} {x1:Int} {x2:Int} {x3:Int} {x4:Int} {x5:Int} {x6:Int} {x7:Int} {x8:Int} {x9:Int} {x10:Int} {x11:Int} {x12:Int} {x13:Int} {x14:Int} (ho:o.op=.build 52 #[(0,.const (.bool true)),(1,.tmp 45),(2,.tmp 46)]) (h0:e (.const (.bool true))=.bool true) (h1:e (.tmp 45)=.agg #[.int .i64 x0,.int .i64 x1,.int .i64 x2,.int .i64 x3,.int .i64 x4,.int .i64 x5,.int .i64 x6,.int .i64 x7,.int .i64 x8,.int .i64 x9,.int .i64 x10,.int .i64 x11,.int .i64 x12,.int .i64 x13]) (h2:e (.tmp 46)=.int .i64 x14):(execOp e o).run Try.prog W=.ok (.value (.agg #[.bool true,.int .i64 x0,.int .i64 x1,.int .i64 x2,.int .i64 x3,.int .i64 x4,.int .i64 x5,.int .i64 x6,.int .i64 x7,.int .i64 x8,.int .i64 x9,.int .i64 x10,.int .i64 x11,.int .i64 x12,.int .i64 x13,.int .i64 x14])) W:=by
  obtain ⟨o1,o2,o3,o4,o5,o6⟩:=o
  dsimp only at ho
  subst ho
  simp only [execOp,List.map_toArray,List.map_cons,List.map_nil,h0,h1,h2]
  kernel_rfl
theorem ba52_3 {ops:Array Oper} {rest:List Oper} {o:Oper} {a:Act} {Q:Exit→Act→World→Prop} {W:World} {x:Value} (h:wpList Try.prog ops Q rest (a.put o.dst x) W) (_ho:o.op=.build 52 #[(0,.const (.bool true)),(1,.tmp 45),(2,.tmp 46)]:=by with_reducible rfl) (hgd:Region.wanted o (yielded ops a.tmps)=true:=by rfl) (hrun:(execOp a.eval o).run Try.prog W=.ok (.value x) W:=by exact bd52_3 rfl rfl rfl rfl):wpList Try.prog ops Q (o :: rest) a W:=ldw_ hgd hrun h
theorem bd52_4 {e:Operand→Value} {o:Oper} {W:World} {x0:Bool} {x1:Int} {x2:Int} {x3:Int} {x4:Int} {x5:Int} {x6:Int} {x7:Int} {x8:Int} {x9:Int} {x10:Int} {x11:Int} {x12:Int} {x13:Int} {x14:Int} {x15:Int} (ho:o.op=.build 52 #[(0,.tmp 49),(1,.tmp 51),(2,.tmp 53)]) (h0:e (.tmp 49)=.bool x0) (h1:e (.tmp 51)=.agg #[.int .i64 x1,.int .i64 x2,.int .i64 x3,.int .i64 x4,.int .i64 x5,.int .i64 x6,.int .i64 x7,.int .i64 x8,.int .i64 x9,.int .i64 x10,.int .i64 x11,.int .i64 x12,.int .i64 x13,.int .i64 x14]) (h2:e (.tmp 53)=.int .i64 x15):(execOp e o).run Try.prog W=.ok (.value (.agg #[.bool x0,.int .i64 x1,.int .i64 x2,.int .i64 x3,.int .i64 x4,.int .i64 x5,.int .i64 x6,.int .i64 x7,.int .i64 x8,.int .i64 x9,.int .i64 x10,.int .i64 x11,.int .i64 x12,.int .i64 x13,.int .i64 x14,.int .i64 x15])) W:=by
  obtain ⟨o1,o2,o3,o4,o5,o6⟩:=o
  dsimp only at ho
  subst ho
  simp only [execOp,List.map_toArray,List.map_cons,List.map_nil,h0,h1,h2]
  kernel_rfl
theorem ba52_4 {ops:Array Oper} {rest:List Oper} {o:Oper} {a:Act} {Q:Exit→Act→World→Prop} {W:World} {x:Value} (h:wpList Try.prog ops Q rest (a.put o.dst x) W) (_ho:o.op=.build 52 #[(0,.tmp 49),(1,.tmp 51),(2,.tmp 53)]:=by with_reducible rfl) (hgd:Region.wanted o (yielded ops a.tmps)=true:=by rfl) (hrun:(execOp a.eval o).run Try.prog W=.ok (.value x) W:=by exact bd52_4 rfl rfl rfl rfl):wpList Try.prog ops Q (o :: rest) a W:=ldw_ hgd hrun h
theorem lv32_ {e:Operand→Value} {o:Oper} {p:Operand} {W:World} {g:Nat} {v0 v1 v2 v3 v4 v5 v6 v7 v8 v9 v10 v11 v12 v13:Value} (ho:o.op=.load 32 p) (hp:e p=.pointer (some ⟨g,0,none⟩)) (h:Bv W g #[v0,v1,v2,v3,v4,v5,v6,v7,v8,v9,v10,v11,v12,v13]):(execOp e o).run Try.prog W=.ok (.value (.agg #[v0,v1,v2,v3,v4,v5,v6,v7,v8,v9,v10,v11,v12,v13])) W:=by
  obtain ⟨tt,h⟩:=h
  exact ld32_ ho hp h
theorem lv52_ {e:Operand→Value} {o:Oper} {p:Operand} {W:World} {g:Nat} {v0 v1 v2 v3 v4 v5 v6 v7 v8 v9 v10 v11 v12 v13 v14 v15:Value} (ho:o.op=.load 52 p) (hp:e p=.pointer (some ⟨g,0,none⟩)) (h:Bv W g #[v0,v1,v2,v3,v4,v5,v6,v7,v8,v9,v10,v11,v12,v13,v14,v15]):(execOp e o).run Try.prog W=.ok (.value (.agg #[v0,v1,v2,v3,v4,v5,v6,v7,v8,v9,v10,v11,v12,v13,v14,v15])) W:=by
  obtain ⟨tt,h⟩:=h
  exact ld52_ ho hp h
theorem lw28o0_ {e:Operand→Value} {o:Oper} {p:Operand} {W:World} {g:Nat} {cs:Array Value} {v0 v1 v2 v3 v4:Value} (ho:o.op=.load 28 p) (hp:e p=.pointer (some ⟨g,0,none⟩)) (h:Bv W g cs) (e0:cs[0]?=some v0) (e1:cs[1]?=some v1) (e2:cs[2]?=some v2) (e3:cs[3]?=some v3) (e4:cs[4]?=some v4):(execOp e o).run Try.prog W=.ok (.value (.agg #[v0,v1,v2,v3,v4])) W:=by
  obtain ⟨tt,h⟩:=h
  exact ld28o0_ ho hp h e0 e1 e2 e3 e4
theorem lw28o1_ {e:Operand→Value} {o:Oper} {p:Operand} {W:World} {g:Nat} {cs:Array Value} {v0 v1 v2 v3 v4:Value} (ho:o.op=.load 28 p) (hp:e p=.pointer (some ⟨g,1,none⟩)) (h:Bv W g cs) (e0:cs[1]?=some v0) (e1:cs[2]?=some v1) (e2:cs[3]?=some v2) (e3:cs[4]?=some v3) (e4:cs[5]?=some v4):(execOp e o).run Try.prog W=.ok (.value (.agg #[v0,v1,v2,v3,v4])) W:=by
  obtain ⟨tt,h⟩:=h
  exact ld28o1_ ho hp h e0 e1 e2 e3 e4
theorem lw28o5_ {e:Operand→Value} {o:Oper} {p:Operand} {W:World} {g:Nat} {cs:Array Value} {v0 v1 v2 v3 v4:Value} (ho:o.op=.load 28 p) (hp:e p=.pointer (some ⟨g,5,none⟩)) (h:Bv W g cs) (e0:cs[5]?=some v0) (e1:cs[6]?=some v1) (e2:cs[7]?=some v2) (e3:cs[8]?=some v3) (e4:cs[9]?=some v4):(execOp e o).run Try.prog W=.ok (.value (.agg #[v0,v1,v2,v3,v4])) W:=by
  obtain ⟨tt,h⟩:=h
  exact ld28o5_ ho hp h e0 e1 e2 e3 e4
theorem lw28o6_ {e:Operand→Value} {o:Oper} {p:Operand} {W:World} {g:Nat} {cs:Array Value} {v0 v1 v2 v3 v4:Value} (ho:o.op=.load 28 p) (hp:e p=.pointer (some ⟨g,6,none⟩)) (h:Bv W g cs) (e0:cs[6]?=some v0) (e1:cs[7]?=some v1) (e2:cs[8]?=some v2) (e3:cs[9]?=some v3) (e4:cs[10]?=some v4):(execOp e o).run Try.prog W=.ok (.value (.agg #[v0,v1,v2,v3,v4])) W:=by
  obtain ⟨tt,h⟩:=h
  exact ld28o6_ ho hp h e0 e1 e2 e3 e4
theorem lw32o1_ {e:Operand→Value} {o:Oper} {p:Operand} {W:World} {g:Nat} {cs:Array Value} {v0 v1 v2 v3 v4 v5 v6 v7 v8 v9 v10 v11 v12 v13:Value} (ho:o.op=.load 32 p) (hp:e p=.pointer (some ⟨g,1,none⟩)) (h:Bv W g cs) (e0:cs[1]?=some v0) (e1:cs[2]?=some v1) (e2:cs[3]?=some v2) (e3:cs[4]?=some v3) (e4:cs[5]?=some v4) (e5:cs[6]?=some v5) (e6:cs[7]?=some v6) (e7:cs[8]?=some v7) (e8:cs[9]?=some v8) (e9:cs[10]?=some v9) (e10:cs[11]?=some v10) (e11:cs[12]?=some v11) (e12:cs[13]?=some v12) (e13:cs[14]?=some v13):(execOp e o).run Try.prog W=.ok (.value (.agg #[v0,v1,v2,v3,v4,v5,v6,v7,v8,v9,v10,v11,v12,v13])) W:=by
  obtain ⟨tt,h⟩:=h
  exact ld32o1_ ho hp h e0 e1 e2 e3 e4 e5 e6 e7 e8 e9 e10 e11 e12 e13
theorem lw3_ {e:Operand→Value} {o:Oper} {p:Operand} {W:World} {g i:Nat} {cs:Array Value} {v:Value} (ho:o.op=.load 3 p) (hp:e p=.pointer (some ⟨g,i,none⟩)) (h:Bv W g cs) (hv:cs[i]?=some v):(execOp e o).run Try.prog W=.ok (.value v) W:=by
  obtain ⟨tt,h⟩:=h
  exact lr3_ ho hp h hv
end Go.Proofs.Yteahaehbciccmaa.ZFnPutDrop
