-- by a program of this session's: scripts that stand several times in the printed texts
import Derived.Test.YtjhgkonacdimfaaProg
import Derived.Below
import Derived.Deep.Draws
import Derived.Deep.AppendLies
import Derived.Maps.AppendAt
import Derived.OwnWalk
import Derived.Laws.BytesArg
import Derived.Laws.MakeOwn
import Derived.Laws.OwnMore
import Derived.Deep.OwnRows
import Derived.Tactics
import Derived.Lib.ConvBytes
import Derived.Laws.Slices
import Derived.WalkKit
import Derived.KernelRfl
import Derived.RowKit3
import Derived.Deep.LoopGhost
import Derived.Deep.QuietTactic
import Derived.BigQuiet
import Derived.WideLaws
import Derived.Deep.DeepCutAuto
import Derived.Deep.CutBlock
import Derived.Deep.RegionHeld3
import Derived.Laws.Rows
import Derived.Lib.AppendStr
import Derived.ArgAppend
import Derived.Laws.IdiomCopy
import Derived.OrdersHeld
import Derived.Laws.BitsLemmas
import Derived.RowKit
import Derived.Test.YtjhgkonacdimfaaVWords
import Derived.Test.YtjhgkonacdimfaaVOpen
import Derived.Test.YtjhgkonacdimfaaVMap
import Derived.Test.YtjhgkonacdimfaaWWords
import Derived.Test.YtjhgkonacdimfaaWLast
import Derived.Test.YtjhgkonacdimfaaWTab
import Derived.Test.YtjhgkonacdimfaaWFour
import Derived.Test.YtjhgkonacdimfaaWQPut
import Derived.Test.YtjhgkonacdimfaaWApart
import Derived.Test.YtjhgkonacdimfaaWArr
import Derived.Test.YtjhgkonacdimfaaWZeros
import Derived.Test.YtjhgkonacdimfaaWFoot
import Derived.Test.YtjhgkonacdimfaaWKept
import Derived.Test.YtjhgkonacdimfaaWShare
import Derived.Test.YtjhgkonacdimfaaWN
import Derived.Test.YtjhgkonacdimfaaWFootNe
import Derived.Test.YtjhgkonacdimfaaWAt
import Derived.Test.YtjhgkonacdimfaaWEqStruct
import Derived.Test.YtjhgkonacdimfaaWRepsOne
import Derived.Test.YtjhgkonacdimfaaWInv
import Derived.Test.YtjhgkonacdimfaaWInvWords
import Derived.Test.YtjhgkonacdimfaaWGuard
import Derived.Test.YtjhgkonacdimfaaWNEv
import Derived.Test.YtjhgkonacdimfaaWMore
namespace Go.Proofs.Ytjhgkonacdimfaa.ZFnTurnedKey
open Go.RowKit Go.Proofs.YtjhgkonacdimfaaW.PrintWords Go.Proofs.YtjhgkonacdimfaaW.PrintLast Go.Proofs.YtjhgkonacdimfaaW.PrintMore Go.Proofs.YtjhgkonacdimfaaV
theorem Z0 {P : Prop} (h : P := by exact pP_ Xb.out) : P := h
theorem Z1 {P : Prop} (h : P := by exact pP_ Ka.out) : P := h
theorem Z2 {P : Prop} (h : P := by exact pP_ Ka.out) : P := h
theorem Z3 {P : Prop} (h : P := by exact pP_ Ja.out) : P := h
theorem Z4 {P : Prop} (h : P := by rintro w' ⟨s0, s1, s2, s3, s4, s5, s6, s7, s8, s9, s10, s11, s12, s13, s14, s15, s16, s17, s18, s19, s20, s21, s22, s23, s24, s25, s26, s27, s28, s29, s30, s31, s32, s33, s34, s35, s36, s37, s38, s39, s40, s41, s42, s43, s44, s45, s46, s47, s48, s49, s50, s51, s52, s53, s54, s55, s56, s57, s58, s59, s60, s61, s62, s63, s64, s65, s66, s67⟩; go_simp; with_reducible rfl) : P := h
theorem Z5 {P : Prop} (h : P := by repeat (first | (with_reducible first | exact (Q_HI0_e18 h0_ h1_) | apply IsS47.alloc | apply IsS47.drewN | apply IsS47.drew | apply IsS47.set_1 | apply IsS47.set_2 | refine IsS47.far ?_ Xb.out _) | exact (Q_HI0_e18 h0_ h1_))) : P := h
theorem Z6 {P : Prop} (h : P := by repeat (first | (with_reducible first | exact (Q_HI0_e22 h0_) | apply IsS47.alloc | apply IsS47.drewN | apply IsS47.drew | apply IsS47.set_1 | apply IsS47.set_2 | refine IsS47.far ?_ Xb.out _) | exact (Q_HI0_e22 h0_))) : P := h
theorem Z7 {P : Prop} (h : P := by rintro w' ⟨s0, s1, s2, s3, s4, s5, s6, s7, s8, s9, s10, s11, s12, s13, s14, s15, s16, s17, s18, s19, s20, s21, s22, s23, s24, s25, s26, s27, s28, s29, s30, s31, s32, s33⟩; go_simp; with_reducible rfl) : P := h
theorem Z8 {P : Prop} (h : P := by (try simp only [List.map_toArray, List.map_cons, List.map_nil]); first | done | rfl | (simp only [List.length_drop, List.length_take]; rfl)) : P := h
theorem Z9 {P : Prop} (h : P := by repeat (first | (with_reducible first | exact HBW.out | apply below_alloc | apply pw_below_drewN | apply below_drew1) | exact HBW.out)) : P := h
theorem Z10 {P : Prop} (h : P := by rintro w' ⟨s0, s1, s2, s3, s4, s5, s6, s7, s8, s9, s10, s11, s12, s13, s14, s15, s16, s17, s18, s19, s20⟩; go_simp; with_reducible rfl) : P := h
theorem Z11 {P : Prop} (h : P := by simp only [putAll, Act.put, List.setIfInBounds_toArray, List.set_cons_zero, List.set_cons_succ]) : P := h
theorem Z12 {P : Prop} (h : P := by rintro w' ⟨s0, s1, s2, s3, s4, s5, s6, s7, s8, s9, s10⟩; go_simp; with_reducible rfl) : P := h
theorem Z13 {P : Prop} (h : P := by exact pP_ Ma.out) : P := h
theorem Z14 {P : Prop} (h : P := by rintro w' ⟨s0, s1, s2, s3, s4, s5⟩; go_simp; with_reducible rfl) : P := h
theorem Z15 {P : Prop} (h : P := by rintro w' ⟨s0, s1, s2, s3, s4⟩; go_simp; with_reducible rfl) : P := h
theorem Z16 {P : Prop} (h : P := by first | (with_reducible assumption) | assumption) : P := h
theorem Z17 {P : Prop} (h : P := by first | rfl | (simp; done) | (simp [*]; done)) : P := h
set_option maxRecDepth 100000 in
theorem lk29_ {e : Operand → Value} {o : Oper} {p : Operand} {W : World} {g : Nat} {v0 v1 v2 v3 v4 v5 v6 v7 v8 v9 v10 v11 v12 v13 v14 v15 v16 v17 v18 v19 v20 : Value} (ho : o.op = .load 29 p) (hp : e p = .pointer (some ⟨g,0,none⟩)) (e0 : W.cell? ⟨g,0,none⟩ = some v0) (e1 : W.cell? ⟨g,1,none⟩ = some v1) (e2 : W.cell? ⟨g,2,none⟩ = some v2) (e3 : W.cell? ⟨g,3,none⟩ = some v3) (e4 : W.cell? ⟨g,4,none⟩ = some v4) (e5 : W.cell? ⟨g,5,none⟩ = some v5) (e6 : W.cell? ⟨g,6,none⟩ = some v6) (e7 : W.cell? ⟨g,7,none⟩ = some v7) (e8 : W.cell? ⟨g,8,none⟩ = some v8) (e9 : W.cell? ⟨g,9,none⟩ = some v9) (e10 : W.cell? ⟨g,10,none⟩ = some v10) (e11 : W.cell? ⟨g,11,none⟩ = some v11) (e12 : W.cell? ⟨g,12,none⟩ = some v12) (e13 : W.cell? ⟨g,13,none⟩ = some v13) (e14 : W.cell? ⟨g,14,none⟩ = some v14) (e15 : W.cell? ⟨g,15,none⟩ = some v15) (e16 : W.cell? ⟨g,16,none⟩ = some v16) (e17 : W.cell? ⟨g,17,none⟩ = some v17) (e18 : W.cell? ⟨g,18,none⟩ = some v18) (e19 : W.cell? ⟨g,19,none⟩ = some v19) (e20 : W.cell? ⟨g,20,none⟩ = some v20) : (execOp e o).run Try.prog W = .ok (.value (.agg #[v0,v1,v2,v3,v4,v5,v6,v7,v8,v9,v10,v11,v12,v13,v14,v15,v16,v17,v18,v19,v20])) W := by
  have hu := Try.underlying29
  obtain ⟨o1, o2, o3, o4, o5, o6⟩ := o
  dsimp only at ho
  subst ho
  revert e0 e1 e2 e3 e4 e5 e6 e7 e8 e9 e10 e11 e12 e13 e14 e15 e16 e17 e18 e19 e20
  go_simp
  intro e0 e1 e2 e3 e4 e5 e6 e7 e8 e9 e10 e11 e12 e13 e14 e15 e16 e17 e18 e19 e20
  change Result.andThen (Result.andThen ((ldd Try.prog W ⟨g,0,none⟩ .plain).andThen fun a0 w => (ldd Try.prog w ⟨g,1,none⟩ .plain).andThen fun a1 w => (ldd Try.prog w ⟨g,2,none⟩ .plain).andThen fun a2 w => (ldd Try.prog w ⟨g,3,none⟩ .plain).andThen fun a3 w => (ldd Try.prog w ⟨g,4,none⟩ .plain).andThen fun a4 w => (ldd Try.prog w ⟨g,5,none⟩ .plain).andThen fun a5 w => (ldd Try.prog w ⟨g,6,none⟩ .plain).andThen fun a6 w => (ldd Try.prog w ⟨g,7,none⟩ .plain).andThen fun a7 w => (ldd Try.prog w ⟨g,8,none⟩ .plain).andThen fun a8 w => (ldd Try.prog w ⟨g,9,none⟩ .plain).andThen fun a9 w => (ldd Try.prog w ⟨g,10,none⟩ .plain).andThen fun a10 w => (ldd Try.prog w ⟨g,11,none⟩ .plain).andThen fun a11 w => (ldd Try.prog w ⟨g,12,none⟩ .plain).andThen fun a12 w => (ldd Try.prog w ⟨g,13,none⟩ .plain).andThen fun a13 w => (ldd Try.prog w ⟨g,14,none⟩ .plain).andThen fun a14 w => (ldd Try.prog w ⟨g,15,none⟩ .plain).andThen fun a15 w => (ldd Try.prog w ⟨g,16,none⟩ .plain).andThen fun a16 w => (ldd Try.prog w ⟨g,17,none⟩ .plain).andThen fun a17 w => (ldd Try.prog w ⟨g,18,none⟩ .plain).andThen fun a18 w => (ldd Try.prog w ⟨g,19,none⟩ .plain).andThen fun a19 w => (ldd Try.prog w ⟨g,20,none⟩ .plain).andThen fun a20 w => Result.ok #[a0,a1,a2,a3,a4,a5,a6,a7,a8,a9,a10,a11,a12,a13,a14,a15,a16,a17,a18,a19,a20] w) (fun a w => Result.ok (Value.agg a) w)) (fun a w => Result.ok (Next.value a) w) = _
  refine ao_ (a := Value.agg #[v0,v1,v2,v3,v4,v5,v6,v7,v8,v9,v10,v11,v12,v13,v14,v15,v16,v17,v18,v19,v20]) (w := W) (ao_ (a := #[v0,v1,v2,v3,v4,v5,v6,v7,v8,v9,v10,v11,v12,v13,v14,v15,v16,v17,v18,v19,v20]) (w := W) ?_ rfl) rfl
  refine (lg_ (v := v0) e0).trans ?_
  refine (lg_ (v := v1) e1).trans ?_
  refine (lg_ (v := v2) e2).trans ?_
  refine (lg_ (v := v3) e3).trans ?_
  refine (lg_ (v := v4) e4).trans ?_
  refine (lg_ (v := v5) e5).trans ?_
  refine (lg_ (v := v6) e6).trans ?_
  refine (lg_ (v := v7) e7).trans ?_
  refine (lg_ (v := v8) e8).trans ?_
  refine (lg_ (v := v9) e9).trans ?_
  refine (lg_ (v := v10) e10).trans ?_
  refine (lg_ (v := v11) e11).trans ?_
  refine (lg_ (v := v12) e12).trans ?_
  refine (lg_ (v := v13) e13).trans ?_
  refine (lg_ (v := v14) e14).trans ?_
  refine (lg_ (v := v15) e15).trans ?_
  refine (lg_ (v := v16) e16).trans ?_
  refine (lg_ (v := v17) e17).trans ?_
  refine (lg_ (v := v18) e18).trans ?_
  refine (lg_ (v := v19) e19).trans ?_
  refine (lg_ (v := v20) e20).trans ?_
  rfl
set_option maxRecDepth 100000 in
theorem lk31_ {e : Operand → Value} {o : Oper} {p : Operand} {W : World} {g : Nat} {v0 v1 v2 v3 v4 v5 v6 v7 v8 v9 v10 v11 v12 : Value} (ho : o.op = .load 31 p) (hp : e p = .pointer (some ⟨g,0,none⟩)) (e0 : W.cell? ⟨g,0,none⟩ = some v0) (e1 : W.cell? ⟨g,1,none⟩ = some v1) (e2 : W.cell? ⟨g,2,none⟩ = some v2) (e3 : W.cell? ⟨g,3,none⟩ = some v3) (e4 : W.cell? ⟨g,4,none⟩ = some v4) (e5 : W.cell? ⟨g,5,none⟩ = some v5) (e6 : W.cell? ⟨g,6,none⟩ = some v6) (e7 : W.cell? ⟨g,7,none⟩ = some v7) (e8 : W.cell? ⟨g,8,none⟩ = some v8) (e9 : W.cell? ⟨g,9,none⟩ = some v9) (e10 : W.cell? ⟨g,10,none⟩ = some v10) (e11 : W.cell? ⟨g,11,none⟩ = some v11) (e12 : W.cell? ⟨g,12,none⟩ = some v12) : (execOp e o).run Try.prog W = .ok (.value (.agg #[v0,v1,v2,v3,v4,v5,v6,v7,v8,v9,v10,v11,v12])) W := by
  have hu := Try.underlying31
  obtain ⟨o1, o2, o3, o4, o5, o6⟩ := o
  dsimp only at ho
  subst ho
  revert e0 e1 e2 e3 e4 e5 e6 e7 e8 e9 e10 e11 e12
  go_simp
  intro e0 e1 e2 e3 e4 e5 e6 e7 e8 e9 e10 e11 e12
  change Result.andThen (Result.andThen ((ldd Try.prog W ⟨g,0,none⟩ .plain).andThen fun a0 w => (ldd Try.prog w ⟨g,1,none⟩ .plain).andThen fun a1 w => (ldd Try.prog w ⟨g,2,none⟩ .plain).andThen fun a2 w => (ldd Try.prog w ⟨g,3,none⟩ .plain).andThen fun a3 w => (ldd Try.prog w ⟨g,4,none⟩ .plain).andThen fun a4 w => (ldd Try.prog w ⟨g,5,none⟩ .plain).andThen fun a5 w => (ldd Try.prog w ⟨g,6,none⟩ .plain).andThen fun a6 w => (ldd Try.prog w ⟨g,7,none⟩ .plain).andThen fun a7 w => (ldd Try.prog w ⟨g,8,none⟩ .plain).andThen fun a8 w => (ldd Try.prog w ⟨g,9,none⟩ .plain).andThen fun a9 w => (ldd Try.prog w ⟨g,10,none⟩ .plain).andThen fun a10 w => (ldd Try.prog w ⟨g,11,none⟩ .plain).andThen fun a11 w => (ldd Try.prog w ⟨g,12,none⟩ .plain).andThen fun a12 w => Result.ok #[a0,a1,a2,a3,a4,a5,a6,a7,a8,a9,a10,a11,a12] w) (fun a w => Result.ok (Value.agg a) w)) (fun a w => Result.ok (Next.value a) w) = _
  refine ao_ (a := Value.agg #[v0,v1,v2,v3,v4,v5,v6,v7,v8,v9,v10,v11,v12]) (w := W) (ao_ (a := #[v0,v1,v2,v3,v4,v5,v6,v7,v8,v9,v10,v11,v12]) (w := W) ?_ rfl) rfl
  refine (lg_ (v := v0) e0).trans ?_
  refine (lg_ (v := v1) e1).trans ?_
  refine (lg_ (v := v2) e2).trans ?_
  refine (lg_ (v := v3) e3).trans ?_
  refine (lg_ (v := v4) e4).trans ?_
  refine (lg_ (v := v5) e5).trans ?_
  refine (lg_ (v := v6) e6).trans ?_
  refine (lg_ (v := v7) e7).trans ?_
  refine (lg_ (v := v8) e8).trans ?_
  refine (lg_ (v := v9) e9).trans ?_
  refine (lg_ (v := v10) e10).trans ?_
  refine (lg_ (v := v11) e11).trans ?_
  refine (lg_ (v := v12) e12).trans ?_
  rfl
set_option maxRecDepth 100000 in
theorem st29_ {e : Operand → Value} {o : Oper} {p v : Operand} {W : World} {g n : Nat} {x0 : Int} {x1 : Int} {x2 : Int} {x3 : Int} {x4 : Int} {x5 : Int} {x6 : Int} {x7 : Int} {x8 : Int} {x9 : Int} {x10 : Int} {x11 : Int} {x12 : Int} {x13 : Int} {x14 : Int} {x15 : Int} {x16 : Int} {x17 : Int} {x18 : Int} {x19 : Int} {x20 : Int} (ho : o.op = .store 29 p v) (hp : e p = .pointer (some ⟨g,0,none⟩)) (hv : e v = .agg #[.int .i64 x0,.int .i64 x1,.int .i64 x2,.int .i64 x3,.int .i64 x4,.int .i64 x5,.int .i64 x6,.int .i64 x7,.int .i64 x8,.int .i64 x9,.int .i64 x10,.int .i64 x11,.int .i64 x12,.int .i64 x13,.int .i64 x14,.int .i64 x15,.int .i64 x16,.int .i64 x17,.int .i64 x18,.int .i64 x19,.int .i64 x20]) (hb : Blk W g n) (hn : 21 ≤ n) : (execOp e o).run Try.prog W = .ok .skip (((((((((((((((((((((W.setCell ⟨g,0,none⟩ (.int .i64 x0)).setCell ⟨g,1,none⟩ (.int .i64 x1)).setCell ⟨g,2,none⟩ (.int .i64 x2)).setCell ⟨g,3,none⟩ (.int .i64 x3)).setCell ⟨g,4,none⟩ (.int .i64 x4)).setCell ⟨g,5,none⟩ (.int .i64 x5)).setCell ⟨g,6,none⟩ (.int .i64 x6)).setCell ⟨g,7,none⟩ (.int .i64 x7)).setCell ⟨g,8,none⟩ (.int .i64 x8)).setCell ⟨g,9,none⟩ (.int .i64 x9)).setCell ⟨g,10,none⟩ (.int .i64 x10)).setCell ⟨g,11,none⟩ (.int .i64 x11)).setCell ⟨g,12,none⟩ (.int .i64 x12)).setCell ⟨g,13,none⟩ (.int .i64 x13)).setCell ⟨g,14,none⟩ (.int .i64 x14)).setCell ⟨g,15,none⟩ (.int .i64 x15)).setCell ⟨g,16,none⟩ (.int .i64 x16)).setCell ⟨g,17,none⟩ (.int .i64 x17)).setCell ⟨g,18,none⟩ (.int .i64 x18)).setCell ⟨g,19,none⟩ (.int .i64 x19)).setCell ⟨g,20,none⟩ (.int .i64 x20)) := by
  have hu := Try.underlying29
  obtain ⟨o1, o2, o3, o4, o5, o6⟩ := o
  dsimp only at ho
  subst ho
  go_simp
  change Result.andThen ((stored Try.prog W ⟨g,0,none⟩ (.int .i64 x0) .plain).andThen fun _ w => (stored Try.prog w ⟨g,1,none⟩ (.int .i64 x1) .plain).andThen fun _ w => (stored Try.prog w ⟨g,2,none⟩ (.int .i64 x2) .plain).andThen fun _ w => (stored Try.prog w ⟨g,3,none⟩ (.int .i64 x3) .plain).andThen fun _ w => (stored Try.prog w ⟨g,4,none⟩ (.int .i64 x4) .plain).andThen fun _ w => (stored Try.prog w ⟨g,5,none⟩ (.int .i64 x5) .plain).andThen fun _ w => (stored Try.prog w ⟨g,6,none⟩ (.int .i64 x6) .plain).andThen fun _ w => (stored Try.prog w ⟨g,7,none⟩ (.int .i64 x7) .plain).andThen fun _ w => (stored Try.prog w ⟨g,8,none⟩ (.int .i64 x8) .plain).andThen fun _ w => (stored Try.prog w ⟨g,9,none⟩ (.int .i64 x9) .plain).andThen fun _ w => (stored Try.prog w ⟨g,10,none⟩ (.int .i64 x10) .plain).andThen fun _ w => (stored Try.prog w ⟨g,11,none⟩ (.int .i64 x11) .plain).andThen fun _ w => (stored Try.prog w ⟨g,12,none⟩ (.int .i64 x12) .plain).andThen fun _ w => (stored Try.prog w ⟨g,13,none⟩ (.int .i64 x13) .plain).andThen fun _ w => (stored Try.prog w ⟨g,14,none⟩ (.int .i64 x14) .plain).andThen fun _ w => (stored Try.prog w ⟨g,15,none⟩ (.int .i64 x15) .plain).andThen fun _ w => (stored Try.prog w ⟨g,16,none⟩ (.int .i64 x16) .plain).andThen fun _ w => (stored Try.prog w ⟨g,17,none⟩ (.int .i64 x17) .plain).andThen fun _ w => (stored Try.prog w ⟨g,18,none⟩ (.int .i64 x18) .plain).andThen fun _ w => (stored Try.prog w ⟨g,19,none⟩ (.int .i64 x19) .plain).andThen fun _ w => stored Try.prog w ⟨g,20,none⟩ (.int .i64 x20) .plain) (fun _ w => Result.ok Next.skip w) = _
  refine ao_ (a := ()) (w := (((((((((((((((((((((W.setCell ⟨g,0,none⟩ (.int .i64 x0)).setCell ⟨g,1,none⟩ (.int .i64 x1)).setCell ⟨g,2,none⟩ (.int .i64 x2)).setCell ⟨g,3,none⟩ (.int .i64 x3)).setCell ⟨g,4,none⟩ (.int .i64 x4)).setCell ⟨g,5,none⟩ (.int .i64 x5)).setCell ⟨g,6,none⟩ (.int .i64 x6)).setCell ⟨g,7,none⟩ (.int .i64 x7)).setCell ⟨g,8,none⟩ (.int .i64 x8)).setCell ⟨g,9,none⟩ (.int .i64 x9)).setCell ⟨g,10,none⟩ (.int .i64 x10)).setCell ⟨g,11,none⟩ (.int .i64 x11)).setCell ⟨g,12,none⟩ (.int .i64 x12)).setCell ⟨g,13,none⟩ (.int .i64 x13)).setCell ⟨g,14,none⟩ (.int .i64 x14)).setCell ⟨g,15,none⟩ (.int .i64 x15)).setCell ⟨g,16,none⟩ (.int .i64 x16)).setCell ⟨g,17,none⟩ (.int .i64 x17)).setCell ⟨g,18,none⟩ (.int .i64 x18)).setCell ⟨g,19,none⟩ (.int .i64 x19)).setCell ⟨g,20,none⟩ (.int .i64 x20))) ?_ rfl
  have h := hb
  refine (lf_ h (show 0 < n by omega)).trans ?_
  replace h := h.put (b := g) (i := 0) (v := .int .i64 x0)
  refine (lf_ h (show 1 < n by omega)).trans ?_
  replace h := h.put (b := g) (i := 1) (v := .int .i64 x1)
  refine (lf_ h (show 2 < n by omega)).trans ?_
  replace h := h.put (b := g) (i := 2) (v := .int .i64 x2)
  refine (lf_ h (show 3 < n by omega)).trans ?_
  replace h := h.put (b := g) (i := 3) (v := .int .i64 x3)
  refine (lf_ h (show 4 < n by omega)).trans ?_
  replace h := h.put (b := g) (i := 4) (v := .int .i64 x4)
  refine (lf_ h (show 5 < n by omega)).trans ?_
  replace h := h.put (b := g) (i := 5) (v := .int .i64 x5)
  refine (lf_ h (show 6 < n by omega)).trans ?_
  replace h := h.put (b := g) (i := 6) (v := .int .i64 x6)
  refine (lf_ h (show 7 < n by omega)).trans ?_
  replace h := h.put (b := g) (i := 7) (v := .int .i64 x7)
  refine (lf_ h (show 8 < n by omega)).trans ?_
  replace h := h.put (b := g) (i := 8) (v := .int .i64 x8)
  refine (lf_ h (show 9 < n by omega)).trans ?_
  replace h := h.put (b := g) (i := 9) (v := .int .i64 x9)
  refine (lf_ h (show 10 < n by omega)).trans ?_
  replace h := h.put (b := g) (i := 10) (v := .int .i64 x10)
  refine (lf_ h (show 11 < n by omega)).trans ?_
  replace h := h.put (b := g) (i := 11) (v := .int .i64 x11)
  refine (lf_ h (show 12 < n by omega)).trans ?_
  replace h := h.put (b := g) (i := 12) (v := .int .i64 x12)
  refine (lf_ h (show 13 < n by omega)).trans ?_
  replace h := h.put (b := g) (i := 13) (v := .int .i64 x13)
  refine (lf_ h (show 14 < n by omega)).trans ?_
  replace h := h.put (b := g) (i := 14) (v := .int .i64 x14)
  refine (lf_ h (show 15 < n by omega)).trans ?_
  replace h := h.put (b := g) (i := 15) (v := .int .i64 x15)
  refine (lf_ h (show 16 < n by omega)).trans ?_
  replace h := h.put (b := g) (i := 16) (v := .int .i64 x16)
  refine (lf_ h (show 17 < n by omega)).trans ?_
  replace h := h.put (b := g) (i := 17) (v := .int .i64 x17)
  refine (lf_ h (show 18 < n by omega)).trans ?_
  replace h := h.put (b := g) (i := 18) (v := .int .i64 x18)
  refine (lf_ h (show 19 < n by omega)).trans ?_
  replace h := h.put (b := g) (i := 19) (v := .int .i64 x19)
  exact lf0_ h (show 20 < n by omega)
set_option maxRecDepth 100000 in
theorem ld29_ {e : Operand → Value} {o : Oper} {p : Operand} {W : World} {g : Nat} {tt : TypeId} {v0 v1 v2 v3 v4 v5 v6 v7 v8 v9 v10 v11 v12 v13 v14 v15 v16 v17 v18 v19 v20 : Value} (ho : o.op = .load 29 p) (hp : e p = .pointer (some ⟨g,0,none⟩)) (hb : W.heap[g]? = some (.cells #[v0,v1,v2,v3,v4,v5,v6,v7,v8,v9,v10,v11,v12,v13,v14,v15,v16,v17,v18,v19,v20] tt (0,0))) : (execOp e o).run Try.prog W = .ok (.value (.agg #[v0,v1,v2,v3,v4,v5,v6,v7,v8,v9,v10,v11,v12,v13,v14,v15,v16,v17,v18,v19,v20])) W := by
  have hu := Try.underlying29
  obtain ⟨o1, o2, o3, o4, o5, o6⟩ := o
  dsimp only at ho
  subst ho
  have hc := fun i => blk_cell hb i
  clear hb
  revert hc
  go_simp
  intro hc
  change Result.andThen (Result.andThen ((ldd Try.prog W ⟨g,0,none⟩ .plain).andThen fun a0 w => (ldd Try.prog w ⟨g,1,none⟩ .plain).andThen fun a1 w => (ldd Try.prog w ⟨g,2,none⟩ .plain).andThen fun a2 w => (ldd Try.prog w ⟨g,3,none⟩ .plain).andThen fun a3 w => (ldd Try.prog w ⟨g,4,none⟩ .plain).andThen fun a4 w => (ldd Try.prog w ⟨g,5,none⟩ .plain).andThen fun a5 w => (ldd Try.prog w ⟨g,6,none⟩ .plain).andThen fun a6 w => (ldd Try.prog w ⟨g,7,none⟩ .plain).andThen fun a7 w => (ldd Try.prog w ⟨g,8,none⟩ .plain).andThen fun a8 w => (ldd Try.prog w ⟨g,9,none⟩ .plain).andThen fun a9 w => (ldd Try.prog w ⟨g,10,none⟩ .plain).andThen fun a10 w => (ldd Try.prog w ⟨g,11,none⟩ .plain).andThen fun a11 w => (ldd Try.prog w ⟨g,12,none⟩ .plain).andThen fun a12 w => (ldd Try.prog w ⟨g,13,none⟩ .plain).andThen fun a13 w => (ldd Try.prog w ⟨g,14,none⟩ .plain).andThen fun a14 w => (ldd Try.prog w ⟨g,15,none⟩ .plain).andThen fun a15 w => (ldd Try.prog w ⟨g,16,none⟩ .plain).andThen fun a16 w => (ldd Try.prog w ⟨g,17,none⟩ .plain).andThen fun a17 w => (ldd Try.prog w ⟨g,18,none⟩ .plain).andThen fun a18 w => (ldd Try.prog w ⟨g,19,none⟩ .plain).andThen fun a19 w => (ldd Try.prog w ⟨g,20,none⟩ .plain).andThen fun a20 w => Result.ok #[a0,a1,a2,a3,a4,a5,a6,a7,a8,a9,a10,a11,a12,a13,a14,a15,a16,a17,a18,a19,a20] w) (fun a w => Result.ok (Value.agg a) w)) (fun a w => Result.ok (Next.value a) w) = _
  refine ao_ (a := Value.agg #[v0,v1,v2,v3,v4,v5,v6,v7,v8,v9,v10,v11,v12,v13,v14,v15,v16,v17,v18,v19,v20]) (w := W) (ao_ (a := #[v0,v1,v2,v3,v4,v5,v6,v7,v8,v9,v10,v11,v12,v13,v14,v15,v16,v17,v18,v19,v20]) (w := W) ?_ rfl) rfl
  refine (lg_ (v := v0) (hc 0)).trans ?_
  refine (lg_ (v := v1) (hc 1)).trans ?_
  refine (lg_ (v := v2) (hc 2)).trans ?_
  refine (lg_ (v := v3) (hc 3)).trans ?_
  refine (lg_ (v := v4) (hc 4)).trans ?_
  refine (lg_ (v := v5) (hc 5)).trans ?_
  refine (lg_ (v := v6) (hc 6)).trans ?_
  refine (lg_ (v := v7) (hc 7)).trans ?_
  refine (lg_ (v := v8) (hc 8)).trans ?_
  refine (lg_ (v := v9) (hc 9)).trans ?_
  refine (lg_ (v := v10) (hc 10)).trans ?_
  refine (lg_ (v := v11) (hc 11)).trans ?_
  refine (lg_ (v := v12) (hc 12)).trans ?_
  refine (lg_ (v := v13) (hc 13)).trans ?_
  refine (lg_ (v := v14) (hc 14)).trans ?_
  refine (lg_ (v := v15) (hc 15)).trans ?_
  refine (lg_ (v := v16) (hc 16)).trans ?_
  refine (lg_ (v := v17) (hc 17)).trans ?_
  refine (lg_ (v := v18) (hc 18)).trans ?_
  refine (lg_ (v := v19) (hc 19)).trans ?_
  refine (lg_ (v := v20) (hc 20)).trans ?_
  rfl
set_option maxRecDepth 100000 in
theorem st31_ {e : Operand → Value} {o : Oper} {p v : Operand} {W : World} {g n : Nat} {x0 : Int} {x1 : Int} {x2 : Int} {x3 : Int} {x4 : Int} {x5 : Int} {x6 : Int} {x7 : Int} {x8 : Int} {x9 : Int} {x10 : Int} {x11 : Int} {x12 : Int} (ho : o.op = .store 31 p v) (hp : e p = .pointer (some ⟨g,0,none⟩)) (hv : e v = .agg #[.int .i64 x0,.int .i64 x1,.int .i64 x2,.int .i64 x3,.int .i64 x4,.int .i64 x5,.int .i64 x6,.int .i64 x7,.int .i64 x8,.int .i64 x9,.int .i64 x10,.int .i64 x11,.int .i64 x12]) (hb : Blk W g n) (hn : 13 ≤ n) : (execOp e o).run Try.prog W = .ok .skip (((((((((((((W.setCell ⟨g,0,none⟩ (.int .i64 x0)).setCell ⟨g,1,none⟩ (.int .i64 x1)).setCell ⟨g,2,none⟩ (.int .i64 x2)).setCell ⟨g,3,none⟩ (.int .i64 x3)).setCell ⟨g,4,none⟩ (.int .i64 x4)).setCell ⟨g,5,none⟩ (.int .i64 x5)).setCell ⟨g,6,none⟩ (.int .i64 x6)).setCell ⟨g,7,none⟩ (.int .i64 x7)).setCell ⟨g,8,none⟩ (.int .i64 x8)).setCell ⟨g,9,none⟩ (.int .i64 x9)).setCell ⟨g,10,none⟩ (.int .i64 x10)).setCell ⟨g,11,none⟩ (.int .i64 x11)).setCell ⟨g,12,none⟩ (.int .i64 x12)) := by
  have hu := Try.underlying31
  obtain ⟨o1, o2, o3, o4, o5, o6⟩ := o
  dsimp only at ho
  subst ho
  go_simp
  change Result.andThen ((stored Try.prog W ⟨g,0,none⟩ (.int .i64 x0) .plain).andThen fun _ w => (stored Try.prog w ⟨g,1,none⟩ (.int .i64 x1) .plain).andThen fun _ w => (stored Try.prog w ⟨g,2,none⟩ (.int .i64 x2) .plain).andThen fun _ w => (stored Try.prog w ⟨g,3,none⟩ (.int .i64 x3) .plain).andThen fun _ w => (stored Try.prog w ⟨g,4,none⟩ (.int .i64 x4) .plain).andThen fun _ w => (stored Try.prog w ⟨g,5,none⟩ (.int .i64 x5) .plain).andThen fun _ w => (stored Try.prog w ⟨g,6,none⟩ (.int .i64 x6) .plain).andThen fun _ w => (stored Try.prog w ⟨g,7,none⟩ (.int .i64 x7) .plain).andThen fun _ w => (stored Try.prog w ⟨g,8,none⟩ (.int .i64 x8) .plain).andThen fun _ w => (stored Try.prog w ⟨g,9,none⟩ (.int .i64 x9) .plain).andThen fun _ w => (stored Try.prog w ⟨g,10,none⟩ (.int .i64 x10) .plain).andThen fun _ w => (stored Try.prog w ⟨g,11,none⟩ (.int .i64 x11) .plain).andThen fun _ w => stored Try.prog w ⟨g,12,none⟩ (.int .i64 x12) .plain) (fun _ w => Result.ok Next.skip w) = _
  refine ao_ (a := ()) (w := (((((((((((((W.setCell ⟨g,0,none⟩ (.int .i64 x0)).setCell ⟨g,1,none⟩ (.int .i64 x1)).setCell ⟨g,2,none⟩ (.int .i64 x2)).setCell ⟨g,3,none⟩ (.int .i64 x3)).setCell ⟨g,4,none⟩ (.int .i64 x4)).setCell ⟨g,5,none⟩ (.int .i64 x5)).setCell ⟨g,6,none⟩ (.int .i64 x6)).setCell ⟨g,7,none⟩ (.int .i64 x7)).setCell ⟨g,8,none⟩ (.int .i64 x8)).setCell ⟨g,9,none⟩ (.int .i64 x9)).setCell ⟨g,10,none⟩ (.int .i64 x10)).setCell ⟨g,11,none⟩ (.int .i64 x11)).setCell ⟨g,12,none⟩ (.int .i64 x12))) ?_ rfl
  have h := hb
  refine (lf_ h (show 0 < n by omega)).trans ?_
  replace h := h.put (b := g) (i := 0) (v := .int .i64 x0)
  refine (lf_ h (show 1 < n by omega)).trans ?_
  replace h := h.put (b := g) (i := 1) (v := .int .i64 x1)
  refine (lf_ h (show 2 < n by omega)).trans ?_
  replace h := h.put (b := g) (i := 2) (v := .int .i64 x2)
  refine (lf_ h (show 3 < n by omega)).trans ?_
  replace h := h.put (b := g) (i := 3) (v := .int .i64 x3)
  refine (lf_ h (show 4 < n by omega)).trans ?_
  replace h := h.put (b := g) (i := 4) (v := .int .i64 x4)
  refine (lf_ h (show 5 < n by omega)).trans ?_
  replace h := h.put (b := g) (i := 5) (v := .int .i64 x5)
  refine (lf_ h (show 6 < n by omega)).trans ?_
  replace h := h.put (b := g) (i := 6) (v := .int .i64 x6)
  refine (lf_ h (show 7 < n by omega)).trans ?_
  replace h := h.put (b := g) (i := 7) (v := .int .i64 x7)
  refine (lf_ h (show 8 < n by omega)).trans ?_
  replace h := h.put (b := g) (i := 8) (v := .int .i64 x8)
  refine (lf_ h (show 9 < n by omega)).trans ?_
  replace h := h.put (b := g) (i := 9) (v := .int .i64 x9)
  refine (lf_ h (show 10 < n by omega)).trans ?_
  replace h := h.put (b := g) (i := 10) (v := .int .i64 x10)
  refine (lf_ h (show 11 < n by omega)).trans ?_
  replace h := h.put (b := g) (i := 11) (v := .int .i64 x11)
  exact lf0_ h (show 12 < n by omega)
set_option maxRecDepth 100000 in
theorem ld31_ {e : Operand → Value} {o : Oper} {p : Operand} {W : World} {g : Nat} {tt : TypeId} {v0 v1 v2 v3 v4 v5 v6 v7 v8 v9 v10 v11 v12 : Value} (ho : o.op = .load 31 p) (hp : e p = .pointer (some ⟨g,0,none⟩)) (hb : W.heap[g]? = some (.cells #[v0,v1,v2,v3,v4,v5,v6,v7,v8,v9,v10,v11,v12] tt (0,0))) : (execOp e o).run Try.prog W = .ok (.value (.agg #[v0,v1,v2,v3,v4,v5,v6,v7,v8,v9,v10,v11,v12])) W := by
  have hu := Try.underlying31
  obtain ⟨o1, o2, o3, o4, o5, o6⟩ := o
  dsimp only at ho
  subst ho
  have hc := fun i => blk_cell hb i
  clear hb
  revert hc
  go_simp
  intro hc
  change Result.andThen (Result.andThen ((ldd Try.prog W ⟨g,0,none⟩ .plain).andThen fun a0 w => (ldd Try.prog w ⟨g,1,none⟩ .plain).andThen fun a1 w => (ldd Try.prog w ⟨g,2,none⟩ .plain).andThen fun a2 w => (ldd Try.prog w ⟨g,3,none⟩ .plain).andThen fun a3 w => (ldd Try.prog w ⟨g,4,none⟩ .plain).andThen fun a4 w => (ldd Try.prog w ⟨g,5,none⟩ .plain).andThen fun a5 w => (ldd Try.prog w ⟨g,6,none⟩ .plain).andThen fun a6 w => (ldd Try.prog w ⟨g,7,none⟩ .plain).andThen fun a7 w => (ldd Try.prog w ⟨g,8,none⟩ .plain).andThen fun a8 w => (ldd Try.prog w ⟨g,9,none⟩ .plain).andThen fun a9 w => (ldd Try.prog w ⟨g,10,none⟩ .plain).andThen fun a10 w => (ldd Try.prog w ⟨g,11,none⟩ .plain).andThen fun a11 w => (ldd Try.prog w ⟨g,12,none⟩ .plain).andThen fun a12 w => Result.ok #[a0,a1,a2,a3,a4,a5,a6,a7,a8,a9,a10,a11,a12] w) (fun a w => Result.ok (Value.agg a) w)) (fun a w => Result.ok (Next.value a) w) = _
  refine ao_ (a := Value.agg #[v0,v1,v2,v3,v4,v5,v6,v7,v8,v9,v10,v11,v12]) (w := W) (ao_ (a := #[v0,v1,v2,v3,v4,v5,v6,v7,v8,v9,v10,v11,v12]) (w := W) ?_ rfl) rfl
  refine (lg_ (v := v0) (hc 0)).trans ?_
  refine (lg_ (v := v1) (hc 1)).trans ?_
  refine (lg_ (v := v2) (hc 2)).trans ?_
  refine (lg_ (v := v3) (hc 3)).trans ?_
  refine (lg_ (v := v4) (hc 4)).trans ?_
  refine (lg_ (v := v5) (hc 5)).trans ?_
  refine (lg_ (v := v6) (hc 6)).trans ?_
  refine (lg_ (v := v7) (hc 7)).trans ?_
  refine (lg_ (v := v8) (hc 8)).trans ?_
  refine (lg_ (v := v9) (hc 9)).trans ?_
  refine (lg_ (v := v10) (hc 10)).trans ?_
  refine (lg_ (v := v11) (hc 11)).trans ?_
  refine (lg_ (v := v12) (hc 12)).trans ?_
  rfl
set_option maxRecDepth 100000 in
theorem sa29_ {ops : Array Oper} {rest : List Oper} {o : Oper} {a : Act} {Q : Exit → Act → World → Prop} {W w1 : World} {p : Tmp} {v : Operand} (h : wpList Try.prog ops Q rest a w1) (_ho : o.op = .store 29 (.tmp p) v := by with_reducible rfl) (hgd : Region.wanted o (yielded ops a.tmps) = true := by rfl) (hN : o.dst = none := by rfl) (hrun : (execOp a.eval o).run Try.prog W = .ok .skip w1 := by first | exact st29_ rfl rfl rfl (bB_ (Aside0.out (by assumption))) (of_decide_eq_true (by kernel_rfl))) : wpList Try.prog ops Q (o :: rest) a W := stw_ hgd hN hrun h
set_option maxRecDepth 100000 in
theorem la29_ {ops : Array Oper} {rest : List Oper} {o : Oper} {a : Act} {Q : Exit → Act → World → Prop} {W : World} {p : Tmp} {x : Value} (h : wpList Try.prog ops Q rest (a.put o.dst x) W) (_ho : o.op = .load 29 (.tmp p) := by with_reducible rfl) (hgd : Region.wanted o (yielded ops a.tmps) = true := by rfl) (hrun : (execOp a.eval o).run Try.prog W = .ok (.value x) W := by first | exact ld29_ rfl rfl (pL_ (Aside0.out (by assumption)))) : wpList Try.prog ops Q (o :: rest) a W := ldw_ hgd hrun h
set_option maxRecDepth 100000 in
theorem sa31_ {ops : Array Oper} {rest : List Oper} {o : Oper} {a : Act} {Q : Exit → Act → World → Prop} {W w1 : World} {p : Tmp} {v : Operand} (h : wpList Try.prog ops Q rest a w1) (_ho : o.op = .store 31 (.tmp p) v := by with_reducible rfl) (hgd : Region.wanted o (yielded ops a.tmps) = true := by rfl) (hN : o.dst = none := by rfl) (hrun : (execOp a.eval o).run Try.prog W = .ok .skip w1 := by first | exact st31_ rfl rfl rfl (bB_ (Aside0.out (by assumption))) (of_decide_eq_true (by kernel_rfl))) : wpList Try.prog ops Q (o :: rest) a W := stw_ hgd hN hrun h
set_option maxRecDepth 100000 in
theorem la31_ {ops : Array Oper} {rest : List Oper} {o : Oper} {a : Act} {Q : Exit → Act → World → Prop} {W : World} {p : Tmp} {x : Value} (h : wpList Try.prog ops Q rest (a.put o.dst x) W) (_ho : o.op = .load 31 (.tmp p) := by with_reducible rfl) (hgd : Region.wanted o (yielded ops a.tmps) = true := by rfl) (hrun : (execOp a.eval o).run Try.prog W = .ok (.value x) W := by first | exact ld31_ rfl rfl (pL_ (Aside0.out (by assumption)))) : wpList Try.prog ops Q (o :: rest) a W := ldw_ hgd hrun h
theorem sn29_ {e : Operand → Value} {o : Oper} {p v : Operand} {W : World} {g n : Nat} {x0 : Int} {x1 : Int} {x2 : Int} {x3 : Int} {x4 : Int} {x5 : Int} {x6 : Int} {x7 : Int} {x8 : Int} {x9 : Int} {x10 : Int} {x11 : Int} {x12 : Int} {x13 : Int} {x14 : Int} {x15 : Int} {x16 : Int} {x17 : Int} {x18 : Int} {x19 : Int} {x20 : Int} (ho : o.op = .store 29 p v) (hp : e p = .pointer (some ⟨g,0,none⟩)) (hv : e v = .agg #[.int .i64 x0,.int .i64 x1,.int .i64 x2,.int .i64 x3,.int .i64 x4,.int .i64 x5,.int .i64 x6,.int .i64 x7,.int .i64 x8,.int .i64 x9,.int .i64 x10,.int .i64 x11,.int .i64 x12,.int .i64 x13,.int .i64 x14,.int .i64 x15,.int .i64 x16,.int .i64 x17,.int .i64 x18,.int .i64 x19,.int .i64 x20]) (hb : Blk W g n) (hn : 21 ≤ n) : (execOp e o).run Try.prog W = .ok .skip (putN W g 0 [.int .i64 x0,.int .i64 x1,.int .i64 x2,.int .i64 x3,.int .i64 x4,.int .i64 x5,.int .i64 x6,.int .i64 x7,.int .i64 x8,.int .i64 x9,.int .i64 x10,.int .i64 x11,.int .i64 x12,.int .i64 x13,.int .i64 x14,.int .i64 x15,.int .i64 x16,.int .i64 x17,.int .i64 x18,.int .i64 x19,.int .i64 x20]) := st29_ ho hp hv hb hn
theorem sn31_ {e : Operand → Value} {o : Oper} {p v : Operand} {W : World} {g n : Nat} {x0 : Int} {x1 : Int} {x2 : Int} {x3 : Int} {x4 : Int} {x5 : Int} {x6 : Int} {x7 : Int} {x8 : Int} {x9 : Int} {x10 : Int} {x11 : Int} {x12 : Int} (ho : o.op = .store 31 p v) (hp : e p = .pointer (some ⟨g,0,none⟩)) (hv : e v = .agg #[.int .i64 x0,.int .i64 x1,.int .i64 x2,.int .i64 x3,.int .i64 x4,.int .i64 x5,.int .i64 x6,.int .i64 x7,.int .i64 x8,.int .i64 x9,.int .i64 x10,.int .i64 x11,.int .i64 x12]) (hb : Blk W g n) (hn : 13 ≤ n) : (execOp e o).run Try.prog W = .ok .skip (putN W g 0 [.int .i64 x0,.int .i64 x1,.int .i64 x2,.int .i64 x3,.int .i64 x4,.int .i64 x5,.int .i64 x6,.int .i64 x7,.int .i64 x8,.int .i64 x9,.int .i64 x10,.int .i64 x11,.int .i64 x12]) := st31_ ho hp hv hb hn
set_option linter.unusedVariables false
set_option maxRecDepth 100000 in
theorem ld25o0_ {e : Operand → Value} {o : Oper} {p : Operand} {W : World} {g : Nat} {tt : TypeId} {cs : Array Value} {v0 v1 v2 v3 v4 : Value} (ho : o.op = .load 25 p) (hp : e p = .pointer (some ⟨g,0,none⟩)) (hb : W.heap[g]? = some (.cells cs tt (0,0))) (e0 : cs[0]? = some v0) (e1 : cs[1]? = some v1) (e2 : cs[2]? = some v2) (e3 : cs[3]? = some v3) (e4 : cs[4]? = some v4) : (execOp e o).run Try.prog W = .ok (.value (.agg #[v0,v1,v2,v3,v4])) W := by
  have hu := Try.underlying25
  obtain ⟨o1, o2, o3, o4, o5, o6⟩ := o
  dsimp only at ho
  subst ho
  have h0 := (blk_cell hb 0).trans e0
  have h1 := (blk_cell hb 1).trans e1
  have h2 := (blk_cell hb 2).trans e2
  have h3 := (blk_cell hb 3).trans e3
  have h4 := (blk_cell hb 4).trans e4
  go_simp
set_option maxRecDepth 100000 in
theorem st25o0_ {e : Operand → Value} {o : Oper} {p v : Operand} {W : World} {g n : Nat} {x0 : Int} {x1 : Int} {x2 : Int} {x3 : Int} {x4 : Int} (ho : o.op = .store 25 p v) (hp : e p = .pointer (some ⟨g,0,none⟩)) (hv : e v = .agg #[.int .i64 x0,.int .i64 x1,.int .i64 x2,.int .i64 x3,.int .i64 x4]) (hb : Blk W g n) (hn : 5 ≤ n) : (execOp e o).run Try.prog W = .ok .skip (((((W.setCell ⟨g,0,none⟩ (.int .i64 x0)).setCell ⟨g,1,none⟩ (.int .i64 x1)).setCell ⟨g,2,none⟩ (.int .i64 x2)).setCell ⟨g,3,none⟩ (.int .i64 x3)).setCell ⟨g,4,none⟩ (.int .i64 x4)) := by
  have hu := Try.underlying25
  obtain ⟨o1, o2, o3, o4, o5, o6⟩ := o
  dsimp only at ho
  subst ho
  go_simp
  change Result.andThen ((stored Try.prog W ⟨g,0,none⟩ (.int .i64 x0) .plain).andThen fun _ w => (stored Try.prog w ⟨g,1,none⟩ (.int .i64 x1) .plain).andThen fun _ w => (stored Try.prog w ⟨g,2,none⟩ (.int .i64 x2) .plain).andThen fun _ w => (stored Try.prog w ⟨g,3,none⟩ (.int .i64 x3) .plain).andThen fun _ w => stored Try.prog w ⟨g,4,none⟩ (.int .i64 x4) .plain) (fun _ w => Result.ok Next.skip w) = _
  refine ao_ (a := ()) (w := (((((W.setCell ⟨g,0,none⟩ (.int .i64 x0)).setCell ⟨g,1,none⟩ (.int .i64 x1)).setCell ⟨g,2,none⟩ (.int .i64 x2)).setCell ⟨g,3,none⟩ (.int .i64 x3)).setCell ⟨g,4,none⟩ (.int .i64 x4))) ?_ rfl
  have h := hb
  refine (lf_ h (show 0 < n by omega)).trans ?_
  replace h := h.put (b := g) (i := 0) (v := .int .i64 x0)
  refine (lf_ h (show 1 < n by omega)).trans ?_
  replace h := h.put (b := g) (i := 1) (v := .int .i64 x1)
  refine (lf_ h (show 2 < n by omega)).trans ?_
  replace h := h.put (b := g) (i := 2) (v := .int .i64 x2)
  refine (lf_ h (show 3 < n by omega)).trans ?_
  replace h := h.put (b := g) (i := 3) (v := .int .i64 x3)
  exact lf0_ h (show 4 < n by omega)
theorem sa25o0_ {ops : Array Oper} {rest : List Oper} {o : Oper} {a : Act} {Q : Exit → Act → World → Prop} {W w1 : World} {p : Tmp} {v : Operand} (h : wpList Try.prog ops Q rest a w1) (_ho : o.op = .store 25 (.tmp p) v := by with_reducible rfl) (hgd : Region.wanted o (yielded ops a.tmps) = true := by rfl) (hN : o.dst = none := by rfl) (hrun : (execOp a.eval o).run Try.prog W = .ok .skip w1 := by exact st25o0_ rfl rfl rfl (bB_ (Aside0.out (by assumption))) (of_decide_eq_true (by kernel_rfl))) : wpList Try.prog ops Q (o :: rest) a W := stw_ hgd hN hrun h
theorem la25o0_ {ops : Array Oper} {rest : List Oper} {o : Oper} {a : Act} {Q : Exit → Act → World → Prop} {W : World} {p : Tmp} {x : Value} (h : wpList Try.prog ops Q rest (a.put o.dst x) W) (_ho : o.op = .load 25 (.tmp p) := by with_reducible rfl) (hgd : Region.wanted o (yielded ops a.tmps) = true := by rfl) (hrun : (execOp a.eval o).run Try.prog W = .ok (.value x) W := by exact ld25o0_ rfl rfl (pL_ (Aside0.out (by assumption))) (by rfl) (by rfl) (by rfl) (by rfl) (by rfl)) : wpList Try.prog ops Q (o :: rest) a W := ldw_ hgd hrun h
set_option maxRecDepth 100000 in
theorem ld25o5_ {e : Operand → Value} {o : Oper} {p : Operand} {W : World} {g : Nat} {tt : TypeId} {cs : Array Value} {v0 v1 v2 v3 v4 : Value} (ho : o.op = .load 25 p) (hp : e p = .pointer (some ⟨g,5,none⟩)) (hb : W.heap[g]? = some (.cells cs tt (0,0))) (e0 : cs[5]? = some v0) (e1 : cs[6]? = some v1) (e2 : cs[7]? = some v2) (e3 : cs[8]? = some v3) (e4 : cs[9]? = some v4) : (execOp e o).run Try.prog W = .ok (.value (.agg #[v0,v1,v2,v3,v4])) W := by
  have hu := Try.underlying25
  obtain ⟨o1, o2, o3, o4, o5, o6⟩ := o
  dsimp only at ho
  subst ho
  have h0 := (blk_cell hb 5).trans e0
  have h1 := (blk_cell hb 6).trans e1
  have h2 := (blk_cell hb 7).trans e2
  have h3 := (blk_cell hb 8).trans e3
  have h4 := (blk_cell hb 9).trans e4
  go_simp
set_option maxRecDepth 100000 in
theorem st25o5_ {e : Operand → Value} {o : Oper} {p v : Operand} {W : World} {g n : Nat} {x0 : Int} {x1 : Int} {x2 : Int} {x3 : Int} {x4 : Int} (ho : o.op = .store 25 p v) (hp : e p = .pointer (some ⟨g,5,none⟩)) (hv : e v = .agg #[.int .i64 x0,.int .i64 x1,.int .i64 x2,.int .i64 x3,.int .i64 x4]) (hb : Blk W g n) (hn : 10 ≤ n) : (execOp e o).run Try.prog W = .ok .skip (((((W.setCell ⟨g,5,none⟩ (.int .i64 x0)).setCell ⟨g,6,none⟩ (.int .i64 x1)).setCell ⟨g,7,none⟩ (.int .i64 x2)).setCell ⟨g,8,none⟩ (.int .i64 x3)).setCell ⟨g,9,none⟩ (.int .i64 x4)) := by
  have hu := Try.underlying25
  obtain ⟨o1, o2, o3, o4, o5, o6⟩ := o
  dsimp only at ho
  subst ho
  go_simp
  change Result.andThen ((stored Try.prog W ⟨g,5,none⟩ (.int .i64 x0) .plain).andThen fun _ w => (stored Try.prog w ⟨g,6,none⟩ (.int .i64 x1) .plain).andThen fun _ w => (stored Try.prog w ⟨g,7,none⟩ (.int .i64 x2) .plain).andThen fun _ w => (stored Try.prog w ⟨g,8,none⟩ (.int .i64 x3) .plain).andThen fun _ w => stored Try.prog w ⟨g,9,none⟩ (.int .i64 x4) .plain) (fun _ w => Result.ok Next.skip w) = _
  refine ao_ (a := ()) (w := (((((W.setCell ⟨g,5,none⟩ (.int .i64 x0)).setCell ⟨g,6,none⟩ (.int .i64 x1)).setCell ⟨g,7,none⟩ (.int .i64 x2)).setCell ⟨g,8,none⟩ (.int .i64 x3)).setCell ⟨g,9,none⟩ (.int .i64 x4))) ?_ rfl
  have h := hb
  refine (lf_ h (show 5 < n by omega)).trans ?_
  replace h := h.put (b := g) (i := 5) (v := .int .i64 x0)
  refine (lf_ h (show 6 < n by omega)).trans ?_
  replace h := h.put (b := g) (i := 6) (v := .int .i64 x1)
  refine (lf_ h (show 7 < n by omega)).trans ?_
  replace h := h.put (b := g) (i := 7) (v := .int .i64 x2)
  refine (lf_ h (show 8 < n by omega)).trans ?_
  replace h := h.put (b := g) (i := 8) (v := .int .i64 x3)
  exact lf0_ h (show 9 < n by omega)
theorem sa25o5_ {ops : Array Oper} {rest : List Oper} {o : Oper} {a : Act} {Q : Exit → Act → World → Prop} {W w1 : World} {p : Tmp} {v : Operand} (h : wpList Try.prog ops Q rest a w1) (_ho : o.op = .store 25 (.tmp p) v := by with_reducible rfl) (hgd : Region.wanted o (yielded ops a.tmps) = true := by rfl) (hN : o.dst = none := by rfl) (hrun : (execOp a.eval o).run Try.prog W = .ok .skip w1 := by exact st25o5_ rfl rfl rfl (bB_ (Aside0.out (by assumption))) (of_decide_eq_true (by kernel_rfl))) : wpList Try.prog ops Q (o :: rest) a W := stw_ hgd hN hrun h
theorem la25o5_ {ops : Array Oper} {rest : List Oper} {o : Oper} {a : Act} {Q : Exit → Act → World → Prop} {W : World} {p : Tmp} {x : Value} (h : wpList Try.prog ops Q rest (a.put o.dst x) W) (_ho : o.op = .load 25 (.tmp p) := by with_reducible rfl) (hgd : Region.wanted o (yielded ops a.tmps) = true := by rfl) (hrun : (execOp a.eval o).run Try.prog W = .ok (.value x) W := by exact ld25o5_ rfl rfl (pL_ (Aside0.out (by assumption))) (by rfl) (by rfl) (by rfl) (by rfl) (by rfl)) : wpList Try.prog ops Q (o :: rest) a W := ldw_ hgd hrun h
set_option maxRecDepth 100000 in
theorem ld27o1_ {e : Operand → Value} {o : Oper} {p : Operand} {W : World} {g : Nat} {tt : TypeId} {cs : Array Value} {v0 v1 v2 v3 v4 v5 : Value} (ho : o.op = .load 27 p) (hp : e p = .pointer (some ⟨g,1,none⟩)) (hb : W.heap[g]? = some (.cells cs tt (0,0))) (e0 : cs[1]? = some v0) (e1 : cs[2]? = some v1) (e2 : cs[3]? = some v2) (e3 : cs[4]? = some v3) (e4 : cs[5]? = some v4) (e5 : cs[6]? = some v5) : (execOp e o).run Try.prog W = .ok (.value (.agg #[v0,v1,v2,v3,v4,v5])) W := by
  have hu := Try.underlying27
  obtain ⟨o1, o2, o3, o4, o5, o6⟩ := o
  dsimp only at ho
  subst ho
  have h0 := (blk_cell hb 1).trans e0
  have h1 := (blk_cell hb 2).trans e1
  have h2 := (blk_cell hb 3).trans e2
  have h3 := (blk_cell hb 4).trans e3
  have h4 := (blk_cell hb 5).trans e4
  have h5 := (blk_cell hb 6).trans e5
  go_simp
set_option maxRecDepth 100000 in
theorem st27o1_ {e : Operand → Value} {o : Oper} {p v : Operand} {W : World} {g n : Nat} {x0 : Int} {x1 : Int} {x2 : Int} {x3 : Int} {x4 : Int} {x5 : Int} (ho : o.op = .store 27 p v) (hp : e p = .pointer (some ⟨g,1,none⟩)) (hv : e v = .agg #[.int .i64 x0,.int .i64 x1,.int .i64 x2,.int .i64 x3,.int .i64 x4,.int .i64 x5]) (hb : Blk W g n) (hn : 7 ≤ n) : (execOp e o).run Try.prog W = .ok .skip ((((((W.setCell ⟨g,1,none⟩ (.int .i64 x0)).setCell ⟨g,2,none⟩ (.int .i64 x1)).setCell ⟨g,3,none⟩ (.int .i64 x2)).setCell ⟨g,4,none⟩ (.int .i64 x3)).setCell ⟨g,5,none⟩ (.int .i64 x4)).setCell ⟨g,6,none⟩ (.int .i64 x5)) := by
  have hu := Try.underlying27
  obtain ⟨o1, o2, o3, o4, o5, o6⟩ := o
  dsimp only at ho
  subst ho
  go_simp
  change Result.andThen ((stored Try.prog W ⟨g,1,none⟩ (.int .i64 x0) .plain).andThen fun _ w => (stored Try.prog w ⟨g,2,none⟩ (.int .i64 x1) .plain).andThen fun _ w => (stored Try.prog w ⟨g,3,none⟩ (.int .i64 x2) .plain).andThen fun _ w => (stored Try.prog w ⟨g,4,none⟩ (.int .i64 x3) .plain).andThen fun _ w => (stored Try.prog w ⟨g,5,none⟩ (.int .i64 x4) .plain).andThen fun _ w => stored Try.prog w ⟨g,6,none⟩ (.int .i64 x5) .plain) (fun _ w => Result.ok Next.skip w) = _
  refine ao_ (a := ()) (w := ((((((W.setCell ⟨g,1,none⟩ (.int .i64 x0)).setCell ⟨g,2,none⟩ (.int .i64 x1)).setCell ⟨g,3,none⟩ (.int .i64 x2)).setCell ⟨g,4,none⟩ (.int .i64 x3)).setCell ⟨g,5,none⟩ (.int .i64 x4)).setCell ⟨g,6,none⟩ (.int .i64 x5))) ?_ rfl
  have h := hb
  refine (lf_ h (show 1 < n by omega)).trans ?_
  replace h := h.put (b := g) (i := 1) (v := .int .i64 x0)
  refine (lf_ h (show 2 < n by omega)).trans ?_
  replace h := h.put (b := g) (i := 2) (v := .int .i64 x1)
  refine (lf_ h (show 3 < n by omega)).trans ?_
  replace h := h.put (b := g) (i := 3) (v := .int .i64 x2)
  refine (lf_ h (show 4 < n by omega)).trans ?_
  replace h := h.put (b := g) (i := 4) (v := .int .i64 x3)
  refine (lf_ h (show 5 < n by omega)).trans ?_
  replace h := h.put (b := g) (i := 5) (v := .int .i64 x4)
  exact lf0_ h (show 6 < n by omega)
theorem sa27o1_ {ops : Array Oper} {rest : List Oper} {o : Oper} {a : Act} {Q : Exit → Act → World → Prop} {W w1 : World} {p : Tmp} {v : Operand} (h : wpList Try.prog ops Q rest a w1) (_ho : o.op = .store 27 (.tmp p) v := by with_reducible rfl) (hgd : Region.wanted o (yielded ops a.tmps) = true := by rfl) (hN : o.dst = none := by rfl) (hrun : (execOp a.eval o).run Try.prog W = .ok .skip w1 := by exact st27o1_ rfl rfl rfl (bB_ (Aside0.out (by assumption))) (of_decide_eq_true (by kernel_rfl))) : wpList Try.prog ops Q (o :: rest) a W := stw_ hgd hN hrun h
theorem la27o1_ {ops : Array Oper} {rest : List Oper} {o : Oper} {a : Act} {Q : Exit → Act → World → Prop} {W : World} {p : Tmp} {x : Value} (h : wpList Try.prog ops Q rest (a.put o.dst x) W) (_ho : o.op = .load 27 (.tmp p) := by with_reducible rfl) (hgd : Region.wanted o (yielded ops a.tmps) = true := by rfl) (hrun : (execOp a.eval o).run Try.prog W = .ok (.value x) W := by exact ld27o1_ rfl rfl (pL_ (Aside0.out (by assumption))) (by rfl) (by rfl) (by rfl) (by rfl) (by rfl) (by rfl)) : wpList Try.prog ops Q (o :: rest) a W := ldw_ hgd hrun h
set_option maxRecDepth 100000 in
theorem ld27o7_ {e : Operand → Value} {o : Oper} {p : Operand} {W : World} {g : Nat} {tt : TypeId} {cs : Array Value} {v0 v1 v2 v3 v4 v5 : Value} (ho : o.op = .load 27 p) (hp : e p = .pointer (some ⟨g,7,none⟩)) (hb : W.heap[g]? = some (.cells cs tt (0,0))) (e0 : cs[7]? = some v0) (e1 : cs[8]? = some v1) (e2 : cs[9]? = some v2) (e3 : cs[10]? = some v3) (e4 : cs[11]? = some v4) (e5 : cs[12]? = some v5) : (execOp e o).run Try.prog W = .ok (.value (.agg #[v0,v1,v2,v3,v4,v5])) W := by
  have hu := Try.underlying27
  obtain ⟨o1, o2, o3, o4, o5, o6⟩ := o
  dsimp only at ho
  subst ho
  have h0 := (blk_cell hb 7).trans e0
  have h1 := (blk_cell hb 8).trans e1
  have h2 := (blk_cell hb 9).trans e2
  have h3 := (blk_cell hb 10).trans e3
  have h4 := (blk_cell hb 11).trans e4
  have h5 := (blk_cell hb 12).trans e5
  go_simp
set_option maxRecDepth 100000 in
theorem st27o7_ {e : Operand → Value} {o : Oper} {p v : Operand} {W : World} {g n : Nat} {x0 : Int} {x1 : Int} {x2 : Int} {x3 : Int} {x4 : Int} {x5 : Int} (ho : o.op = .store 27 p v) (hp : e p = .pointer (some ⟨g,7,none⟩)) (hv : e v = .agg #[.int .i64 x0,.int .i64 x1,.int .i64 x2,.int .i64 x3,.int .i64 x4,.int .i64 x5]) (hb : Blk W g n) (hn : 13 ≤ n) : (execOp e o).run Try.prog W = .ok .skip ((((((W.setCell ⟨g,7,none⟩ (.int .i64 x0)).setCell ⟨g,8,none⟩ (.int .i64 x1)).setCell ⟨g,9,none⟩ (.int .i64 x2)).setCell ⟨g,10,none⟩ (.int .i64 x3)).setCell ⟨g,11,none⟩ (.int .i64 x4)).setCell ⟨g,12,none⟩ (.int .i64 x5)) := by
  have hu := Try.underlying27
  obtain ⟨o1, o2, o3, o4, o5, o6⟩ := o
  dsimp only at ho
  subst ho
  go_simp
  change Result.andThen ((stored Try.prog W ⟨g,7,none⟩ (.int .i64 x0) .plain).andThen fun _ w => (stored Try.prog w ⟨g,8,none⟩ (.int .i64 x1) .plain).andThen fun _ w => (stored Try.prog w ⟨g,9,none⟩ (.int .i64 x2) .plain).andThen fun _ w => (stored Try.prog w ⟨g,10,none⟩ (.int .i64 x3) .plain).andThen fun _ w => (stored Try.prog w ⟨g,11,none⟩ (.int .i64 x4) .plain).andThen fun _ w => stored Try.prog w ⟨g,12,none⟩ (.int .i64 x5) .plain) (fun _ w => Result.ok Next.skip w) = _
  refine ao_ (a := ()) (w := ((((((W.setCell ⟨g,7,none⟩ (.int .i64 x0)).setCell ⟨g,8,none⟩ (.int .i64 x1)).setCell ⟨g,9,none⟩ (.int .i64 x2)).setCell ⟨g,10,none⟩ (.int .i64 x3)).setCell ⟨g,11,none⟩ (.int .i64 x4)).setCell ⟨g,12,none⟩ (.int .i64 x5))) ?_ rfl
  have h := hb
  refine (lf_ h (show 7 < n by omega)).trans ?_
  replace h := h.put (b := g) (i := 7) (v := .int .i64 x0)
  refine (lf_ h (show 8 < n by omega)).trans ?_
  replace h := h.put (b := g) (i := 8) (v := .int .i64 x1)
  refine (lf_ h (show 9 < n by omega)).trans ?_
  replace h := h.put (b := g) (i := 9) (v := .int .i64 x2)
  refine (lf_ h (show 10 < n by omega)).trans ?_
  replace h := h.put (b := g) (i := 10) (v := .int .i64 x3)
  refine (lf_ h (show 11 < n by omega)).trans ?_
  replace h := h.put (b := g) (i := 11) (v := .int .i64 x4)
  exact lf0_ h (show 12 < n by omega)
theorem sa27o7_ {ops : Array Oper} {rest : List Oper} {o : Oper} {a : Act} {Q : Exit → Act → World → Prop} {W w1 : World} {p : Tmp} {v : Operand} (h : wpList Try.prog ops Q rest a w1) (_ho : o.op = .store 27 (.tmp p) v := by with_reducible rfl) (hgd : Region.wanted o (yielded ops a.tmps) = true := by rfl) (hN : o.dst = none := by rfl) (hrun : (execOp a.eval o).run Try.prog W = .ok .skip w1 := by exact st27o7_ rfl rfl rfl (bB_ (Aside0.out (by assumption))) (of_decide_eq_true (by kernel_rfl))) : wpList Try.prog ops Q (o :: rest) a W := stw_ hgd hN hrun h
theorem la27o7_ {ops : Array Oper} {rest : List Oper} {o : Oper} {a : Act} {Q : Exit → Act → World → Prop} {W : World} {p : Tmp} {x : Value} (h : wpList Try.prog ops Q rest (a.put o.dst x) W) (_ho : o.op = .load 27 (.tmp p) := by with_reducible rfl) (hgd : Region.wanted o (yielded ops a.tmps) = true := by rfl) (hrun : (execOp a.eval o).run Try.prog W = .ok (.value x) W := by exact ld27o7_ rfl rfl (pL_ (Aside0.out (by assumption))) (by rfl) (by rfl) (by rfl) (by rfl) (by rfl) (by rfl)) : wpList Try.prog ops Q (o :: rest) a W := ldw_ hgd hrun h
theorem lr3_ {e : Operand → Value} {o : Oper} {p : Operand} {W : World} {g i : Nat} {tt : TypeId} {cs : Array Value} {v : Value} (ho : o.op = .load 3 p) (hp : e p = .pointer (some ⟨g,i,none⟩)) (hb : W.heap[g]? = some (.cells cs tt (0,0))) (hv : cs[i]? = some v) : (execOp e o).run Try.prog W = .ok (.value v) W := by
  have hu := Try.underlying3
  obtain ⟨o1, o2, o3, o4, o5, o6⟩ := o
  dsimp only at ho
  subst ho
  have hc := (blk_cell hb i).trans hv
  go_simp
theorem sr3_ {e : Operand → Value} {o : Oper} {p v : Operand} {W : World} {g i n : Nat} {x : Int} (ho : o.op = .store 3 p v) (hp : e p = .pointer (some ⟨g,i,none⟩)) (hv : e v = .int .i64 x) (hb : Blk W g n) (hn : i < n) : (execOp e o).run Try.prog W = .ok .skip (W.setCell ⟨g,i,none⟩ (.int .i64 x)) := by
  have hu := Try.underlying3
  obtain ⟨o1, o2, o3, o4, o5, o6⟩ := o
  dsimp only at ho
  subst ho
  go_simp
  change Result.andThen (stored Try.prog W ⟨g,i,none⟩ (.int .i64 x) .plain) (fun _ w => Result.ok Next.skip w) = _
  exact ao_ (lf0_ hb hn) rfl
theorem lc3_ {ops : Array Oper} {rest : List Oper} {o : Oper} {a : Act} {Q : Exit → Act → World → Prop} {W : World} {p : Tmp} {x : Value} (h : wpList Try.prog ops Q rest (a.put o.dst x) W) (_ho : o.op = .load 3 (.tmp p) := by with_reducible rfl) (hgd : Region.wanted o (yielded ops a.tmps) = true := by rfl) (hrun : (execOp a.eval o).run Try.prog W = .ok (.value x) W := by exact lr3_ rfl rfl (pL_ (Aside0.out (by assumption))) (by rfl)) : wpList Try.prog ops Q (o :: rest) a W := ldw_ hgd hrun h
theorem sc3_ {ops : Array Oper} {rest : List Oper} {o : Oper} {a : Act} {Q : Exit → Act → World → Prop} {W w1 : World} {p : Tmp} {v : Operand} (h : wpList Try.prog ops Q rest a w1) (_ho : o.op = .store 3 (.tmp p) v := by with_reducible rfl) (hgd : Region.wanted o (yielded ops a.tmps) = true := by rfl) (hN : o.dst = none := by rfl) (hrun : (execOp a.eval o).run Try.prog W = .ok .skip w1 := by exact sr3_ rfl rfl rfl (bB_ (Aside0.out (by assumption))) (of_decide_eq_true (by kernel_rfl))) : wpList Try.prog ops Q (o :: rest) a W := stw_ hgd hN hrun h
set_option maxRecDepth 100000 in
theorem bd29_0 {e : Operand → Value} {o : Oper} {W : World} {x0 : Int} {x1 : Int} {x2 : Int} {x3 : Int} {x4 : Int} {x5 : Int} {x6 : Int} {x7 : Int} {x8 : Int} {x9 : Int} {x10 : Int} {x11 : Int} {x12 : Int} {x13 : Int} (ho : o.op = .build 29 #[(0,.tmp 9),(1,.tmp 12),(2,.tmp 15),(3,.tmp 20),(5,.const (.int .i64 65535)),(7,.const (.int .i64 65535))]) (h0 : e (.tmp 9) = .int .i64 x0) (h1 : e (.tmp 12) = .agg #[.int .i64 x1,.int .i64 x2,.int .i64 x3,.int .i64 x4,.int .i64 x5,.int .i64 x6]) (h2 : e (.tmp 15) = .agg #[.int .i64 x7,.int .i64 x8,.int .i64 x9,.int .i64 x10,.int .i64 x11,.int .i64 x12]) (h3 : e (.tmp 20) = .int .i64 x13) (h4 : e (.const (.int .i64 65535)) = .int .i64 65535) (h5 : e (.const (.int .i64 65535)) = .int .i64 65535) : (execOp e o).run Try.prog W = .ok (.value (.agg #[.int .i64 x0,.int .i64 x1,.int .i64 x2,.int .i64 x3,.int .i64 x4,.int .i64 x5,.int .i64 x6,.int .i64 x7,.int .i64 x8,.int .i64 x9,.int .i64 x10,.int .i64 x11,.int .i64 x12,.int .i64 x13,.int .i64 0,.int .i64 65535,.int .i64 0,.int .i64 65535,.int .i64 0,.int .i64 0,.int .i64 0])) W := by
  obtain ⟨o1, o2, o3, o4, o5, o6⟩ := o
  dsimp only at ho
  subst ho
  simp only [execOp, List.map_toArray, List.map_cons, List.map_nil, h0, h1, h2, h3, h4]
  kernel_rfl
theorem ba29_0 {ops : Array Oper} {rest : List Oper} {o : Oper} {a : Act} {Q : Exit → Act → World → Prop} {W : World} {x : Value} (h : wpList Try.prog ops Q rest (a.put o.dst x) W) (_ho : o.op = .build 29 #[(0,.tmp 9),(1,.tmp 12),(2,.tmp 15),(3,.tmp 20),(5,.const (.int .i64 65535)),(7,.const (.int .i64 65535))] := by with_reducible rfl) (hgd : Region.wanted o (yielded ops a.tmps) = true := by rfl) (hrun : (execOp a.eval o).run Try.prog W = .ok (.value x) W := by exact bd29_0 rfl rfl rfl rfl rfl rfl rfl) : wpList Try.prog ops Q (o :: rest) a W := ldw_ hgd hrun h
set_option maxRecDepth 100000 in
theorem bd31_1 {e : Operand → Value} {o : Oper} {W : World} {x0 : Int} {x1 : Int} {x2 : Int} {x3 : Int} {x4 : Int} {x5 : Int} {x6 : Int} {x7 : Int} {x8 : Int} {x9 : Int} {x10 : Int} {x11 : Int} {x12 : Int} (ho : o.op = .build 31 #[(0,.tmp 8),(1,.tmp 10),(2,.tmp 12),(3,.tmp 14),(4,.tmp 16)]) (h0 : e (.tmp 8) = .agg #[.int .i64 x0,.int .i64 x1,.int .i64 x2,.int .i64 x3,.int .i64 x4]) (h1 : e (.tmp 10) = .agg #[.int .i64 x5,.int .i64 x6,.int .i64 x7,.int .i64 x8,.int .i64 x9]) (h2 : e (.tmp 12) = .int .i64 x10) (h3 : e (.tmp 14) = .int .i64 x11) (h4 : e (.tmp 16) = .int .i64 x12) : (execOp e o).run Try.prog W = .ok (.value (.agg #[.int .i64 x0,.int .i64 x1,.int .i64 x2,.int .i64 x3,.int .i64 x4,.int .i64 x5,.int .i64 x6,.int .i64 x7,.int .i64 x8,.int .i64 x9,.int .i64 x10,.int .i64 x11,.int .i64 x12])) W := by
  obtain ⟨o1, o2, o3, o4, o5, o6⟩ := o
  dsimp only at ho
  subst ho
  simp only [execOp, List.map_toArray, List.map_cons, List.map_nil, h0, h1, h2, h3, h4]
  kernel_rfl
theorem ba31_1 {ops : Array Oper} {rest : List Oper} {o : Oper} {a : Act} {Q : Exit → Act → World → Prop} {W : World} {x : Value} (h : wpList Try.prog ops Q rest (a.put o.dst x) W) (_ho : o.op = .build 31 #[(0,.tmp 8),(1,.tmp 10),(2,.tmp 12),(3,.tmp 14),(4,.tmp 16)] := by with_reducible rfl) (hgd : Region.wanted o (yielded ops a.tmps) = true := by rfl) (hrun : (execOp a.eval o).run Try.prog W = .ok (.value x) W := by exact bd31_1 rfl rfl rfl rfl rfl rfl) : wpList Try.prog ops Q (o :: rest) a W := ldw_ hgd hrun h
set_option maxRecDepth 100000 in
theorem bd31_2 {e : Operand → Value} {o : Oper} {W : World} {x0 : Int} {x1 : Int} {x2 : Int} {x3 : Int} {x4 : Int} {x5 : Int} {x6 : Int} {x7 : Int} {x8 : Int} {x9 : Int} {x10 : Int} (ho : o.op = .build 31 #[(0,.tmp 9),(1,.tmp 12),(2,.tmp 17)]) (h0 : e (.tmp 9) = .agg #[.int .i64 x0,.int .i64 x1,.int .i64 x2,.int .i64 x3,.int .i64 x4]) (h1 : e (.tmp 12) = .agg #[.int .i64 x5,.int .i64 x6,.int .i64 x7,.int .i64 x8,.int .i64 x9]) (h2 : e (.tmp 17) = .int .i64 x10) : (execOp e o).run Try.prog W = .ok (.value (.agg #[.int .i64 x0,.int .i64 x1,.int .i64 x2,.int .i64 x3,.int .i64 x4,.int .i64 x5,.int .i64 x6,.int .i64 x7,.int .i64 x8,.int .i64 x9,.int .i64 x10,.int .i64 0,.int .i64 0])) W := by
  obtain ⟨o1, o2, o3, o4, o5, o6⟩ := o
  dsimp only at ho
  subst ho
  simp only [execOp, List.map_toArray, List.map_cons, List.map_nil, h0, h1, h2]
  kernel_rfl
theorem ba31_2 {ops : Array Oper} {rest : List Oper} {o : Oper} {a : Act} {Q : Exit → Act → World → Prop} {W : World} {x : Value} (h : wpList Try.prog ops Q rest (a.put o.dst x) W) (_ho : o.op = .build 31 #[(0,.tmp 9),(1,.tmp 12),(2,.tmp 17)] := by with_reducible rfl) (hgd : Region.wanted o (yielded ops a.tmps) = true := by rfl) (hrun : (execOp a.eval o).run Try.prog W = .ok (.value x) W := by exact bd31_2 rfl rfl rfl rfl) : wpList Try.prog ops Q (o :: rest) a W := ldw_ hgd hrun h
theorem lv29_ {e : Operand → Value} {o : Oper} {p : Operand} {W : World} {g : Nat} {v0 v1 v2 v3 v4 v5 v6 v7 v8 v9 v10 v11 v12 v13 v14 v15 v16 v17 v18 v19 v20 : Value} (ho : o.op = .load 29 p) (hp : e p = .pointer (some ⟨g,0,none⟩)) (h : Bv W g #[v0,v1,v2,v3,v4,v5,v6,v7,v8,v9,v10,v11,v12,v13,v14,v15,v16,v17,v18,v19,v20]) : (execOp e o).run Try.prog W = .ok (.value (.agg #[v0,v1,v2,v3,v4,v5,v6,v7,v8,v9,v10,v11,v12,v13,v14,v15,v16,v17,v18,v19,v20])) W := by
  obtain ⟨tt, h⟩ := h
  exact ld29_ ho hp h
theorem lv31_ {e : Operand → Value} {o : Oper} {p : Operand} {W : World} {g : Nat} {v0 v1 v2 v3 v4 v5 v6 v7 v8 v9 v10 v11 v12 : Value} (ho : o.op = .load 31 p) (hp : e p = .pointer (some ⟨g,0,none⟩)) (h : Bv W g #[v0,v1,v2,v3,v4,v5,v6,v7,v8,v9,v10,v11,v12]) : (execOp e o).run Try.prog W = .ok (.value (.agg #[v0,v1,v2,v3,v4,v5,v6,v7,v8,v9,v10,v11,v12])) W := by
  obtain ⟨tt, h⟩ := h
  exact ld31_ ho hp h
theorem lw3_ {e : Operand → Value} {o : Oper} {p : Operand} {W : World} {g i : Nat} {cs : Array Value} {v : Value} (ho : o.op = .load 3 p) (hp : e p = .pointer (some ⟨g,i,none⟩)) (h : Bv W g cs) (hv : cs[i]? = some v) : (execOp e o).run Try.prog W = .ok (.value v) W := by
  obtain ⟨tt, h⟩ := h
  exact lr3_ ho hp h hv
end Go.Proofs.Ytjhgkonacdimfaa.ZFnTurnedKey
