-- by a program of this session's: scripts that stand several times in the printed texts
import Derived.Test.YtjhgkonacdimfabProg
import Derived.Below
import Derived.Deep.Draws
import Derived.Deep.AppendLies
import Derived.Maps.AppendAt
import Derived.OwnWalk
import Derived.Laws.BytesArg
import Derived.Laws.MakeOwn
import Derived.Laws.OwnMore
import Derived.Deep.OwnRows
import Derived.Tactics
import Derived.Lib.ConvBytes
import Derived.Laws.Slices
import Derived.WalkKit
import Derived.KernelRfl
import Derived.RowKit3
import Derived.Deep.LoopGhost
import Derived.Deep.QuietTactic
import Derived.BigQuiet
import Derived.WideLaws
import Derived.Deep.DeepCutAuto
import Derived.Deep.CutBlock
import Derived.Deep.RegionHeld3
import Derived.Laws.Rows
import Derived.Lib.AppendStr
import Derived.ArgAppend
import Derived.Laws.IdiomCopy
import Derived.OrdersHeld
import Derived.Laws.BitsLemmas
import Derived.RowKit
import Derived.Test.YtjhgkonacdimfabVWords
import Derived.Test.YtjhgkonacdimfabVOpen
import Derived.Test.YtjhgkonacdimfabVMap
import Derived.Test.YtjhgkonacdimfabWWords
import Derived.Test.YtjhgkonacdimfabWLast
import Derived.Test.YtjhgkonacdimfabWTab
import Derived.Test.YtjhgkonacdimfabWFour
import Derived.Test.YtjhgkonacdimfabWQPut
import Derived.Test.YtjhgkonacdimfabWApart
import Derived.Test.YtjhgkonacdimfabWArr
import Derived.Test.YtjhgkonacdimfabWZeros
import Derived.Test.YtjhgkonacdimfabWFoot
import Derived.Test.YtjhgkonacdimfabWKept
import Derived.Test.YtjhgkonacdimfabWShare
import Derived.Test.YtjhgkonacdimfabWN
import Derived.Test.YtjhgkonacdimfabWFootNe
import Derived.Test.YtjhgkonacdimfabWAt
import Derived.Test.YtjhgkonacdimfabWEqStruct
import Derived.Test.YtjhgkonacdimfabWRepsOne
import Derived.Test.YtjhgkonacdimfabWInv
import Derived.Test.YtjhgkonacdimfabWInvWords
import Derived.Test.YtjhgkonacdimfabWGuard
import Derived.Test.YtjhgkonacdimfabWNEv
import Derived.Test.YtjhgkonacdimfabWMore
namespace Go.Proofs.Ytjhgkonacdimfab.ZFnExactCmdOk
open Go.RowKit Go.Proofs.YtjhgkonacdimfabW.PrintWords Go.Proofs.YtjhgkonacdimfabW.PrintLast Go.Proofs.YtjhgkonacdimfabW.PrintMore Go.Proofs.YtjhgkonacdimfabV
theorem Z0 {P : Prop} (h : P := by exact pP_ Ma.out) : P := h
theorem Z1 {P : Prop} (h : P := by exact pP_ Ka.out) : P := h
theorem Z2 {P : Prop} (h : P := by exact pP_ Ja.out) : P := h
theorem Z3 {P : Prop} (h : P := by rintro w' ⟨s0, s1, s2, s3, s4, s5, s6, s7, s8, s9, s10, s11, s12, s13, s14, s15, s16, s17, s18, s19, s20, s21, s22, s23, s24, s25, s26, s27, s28, s29, s30, s31, s32, s33, s34, s35, s36, s37, s38, s39, s40, s41, s42, s43, s44, s45, s46, s47, s48, s49, s50, s51, s52, s53, s54, s55, s56, s57, s58, s59⟩; go_simp; with_reducible rfl) : P := h
theorem Z4 {P : Prop} (h : P := by exact pP_ Ua.out) : P := h
theorem Z5 {P : Prop} (h : P := by rintro w' ⟨s0, s1, s2, s3, s4, s5, s6, s7, s8, s9, s10, s11, s12, s13, s14, s15, s16, s17, s18, s19, s20, s21, s22, s23, s24, s25, s26, s27, s28, s29, s30, s31, s32, s33⟩; go_simp; with_reducible rfl) : P := h
theorem Z6 {P : Prop} (h : P := by (try simp only [List.map_toArray, List.map_cons, List.map_nil]); first | done | rfl | (simp only [List.length_drop, List.length_take]; rfl)) : P := h
theorem Z7 {P : Prop} (h : P := by exact pP_ Ua.out) : P := h
theorem Z8 {P : Prop} (h : P := by rintro w' ⟨s0, s1, s2, s3, s4, s5⟩; go_simp; with_reducible rfl) : P := h
theorem Z9 {P : Prop} (h : P := by rintro w' ⟨s0, s1, s2, s3, s4⟩; go_simp; with_reducible rfl) : P := h
theorem Z10 {P : Prop} (h : P := by first | (with_reducible assumption) | assumption) : P := h
theorem Z11 {P : Prop} (h : P := by first | rfl | (simp; done) | (simp [*]; done)) : P := h
set_option maxRecDepth 100000 in
theorem st27_ {e : Operand → Value} {o : Oper} {p v : Operand} {W : World} {g n : Nat} {x0 : Int} {x1 : Int} {x2 : Int} {x3 : Int} {x4 : Int} {x5 : Int} {x6 : Int} {x7 : Int} {x8 : Int} {x9 : Int} {x10 : Int} {x11 : Int} {x12 : Int} {x13 : Int} {x14 : Int} {x15 : Int} {x16 : Int} {x17 : Int} {x18 : Int} {x19 : Int} {x20 : Int} (ho : o.op = .store 27 p v) (hp : e p = .pointer (some ⟨g,0,none⟩)) (hv : e v = .agg #[.int .i64 x0,.int .i64 x1,.int .i64 x2,.int .i64 x3,.int .i64 x4,.int .i64 x5,.int .i64 x6,.int .i64 x7,.int .i64 x8,.int .i64 x9,.int .i64 x10,.int .i64 x11,.int .i64 x12,.int .i64 x13,.int .i64 x14,.int .i64 x15,.int .i64 x16,.int .i64 x17,.int .i64 x18,.int .i64 x19,.int .i64 x20]) (hb : Blk W g n) (hn : 21 ≤ n) : (execOp e o).run Try.prog W = .ok .skip (((((((((((((((((((((W.setCell ⟨g,0,none⟩ (.int .i64 x0)).setCell ⟨g,1,none⟩ (.int .i64 x1)).setCell ⟨g,2,none⟩ (.int .i64 x2)).setCell ⟨g,3,none⟩ (.int .i64 x3)).setCell ⟨g,4,none⟩ (.int .i64 x4)).setCell ⟨g,5,none⟩ (.int .i64 x5)).setCell ⟨g,6,none⟩ (.int .i64 x6)).setCell ⟨g,7,none⟩ (.int .i64 x7)).setCell ⟨g,8,none⟩ (.int .i64 x8)).setCell ⟨g,9,none⟩ (.int .i64 x9)).setCell ⟨g,10,none⟩ (.int .i64 x10)).setCell ⟨g,11,none⟩ (.int .i64 x11)).setCell ⟨g,12,none⟩ (.int .i64 x12)).setCell ⟨g,13,none⟩ (.int .i64 x13)).setCell ⟨g,14,none⟩ (.int .i64 x14)).setCell ⟨g,15,none⟩ (.int .i64 x15)).setCell ⟨g,16,none⟩ (.int .i64 x16)).setCell ⟨g,17,none⟩ (.int .i64 x17)).setCell ⟨g,18,none⟩ (.int .i64 x18)).setCell ⟨g,19,none⟩ (.int .i64 x19)).setCell ⟨g,20,none⟩ (.int .i64 x20)) := by
  have hu := Try.underlying27
  obtain ⟨o1, o2, o3, o4, o5, o6⟩ := o
  dsimp only at ho
  subst ho
  go_simp
  change Result.andThen ((stored Try.prog W ⟨g,0,none⟩ (.int .i64 x0) .plain).andThen fun _ w => (stored Try.prog w ⟨g,1,none⟩ (.int .i64 x1) .plain).andThen fun _ w => (stored Try.prog w ⟨g,2,none⟩ (.int .i64 x2) .plain).andThen fun _ w => (stored Try.prog w ⟨g,3,none⟩ (.int .i64 x3) .plain).andThen fun _ w => (stored Try.prog w ⟨g,4,none⟩ (.int .i64 x4) .plain).andThen fun _ w => (stored Try.prog w ⟨g,5,none⟩ (.int .i64 x5) .plain).andThen fun _ w => (stored Try.prog w ⟨g,6,none⟩ (.int .i64 x6) .plain).andThen fun _ w => (stored Try.prog w ⟨g,7,none⟩ (.int .i64 x7) .plain).andThen fun _ w => (stored Try.prog w ⟨g,8,none⟩ (.int .i64 x8) .plain).andThen fun _ w => (stored Try.prog w ⟨g,9,none⟩ (.int .i64 x9) .plain).andThen fun _ w => (stored Try.prog w ⟨g,10,none⟩ (.int .i64 x10) .plain).andThen fun _ w => (stored Try.prog w ⟨g,11,none⟩ (.int .i64 x11) .plain).andThen fun _ w => (stored Try.prog w ⟨g,12,none⟩ (.int .i64 x12) .plain).andThen fun _ w => (stored Try.prog w ⟨g,13,none⟩ (.int .i64 x13) .plain).andThen fun _ w => (stored Try.prog w ⟨g,14,none⟩ (.int .i64 x14) .plain).andThen fun _ w => (stored Try.prog w ⟨g,15,none⟩ (.int .i64 x15) .plain).andThen fun _ w => (stored Try.prog w ⟨g,16,none⟩ (.int .i64 x16) .plain).andThen fun _ w => (stored Try.prog w ⟨g,17,none⟩ (.int .i64 x17) .plain).andThen fun _ w => (stored Try.prog w ⟨g,18,none⟩ (.int .i64 x18) .plain).andThen fun _ w => (stored Try.prog w ⟨g,19,none⟩ (.int .i64 x19) .plain).andThen fun _ w => stored Try.prog w ⟨g,20,none⟩ (.int .i64 x20) .plain) (fun _ w => Result.ok Next.skip w) = _
  refine ao_ (a := ()) (w := (((((((((((((((((((((W.setCell ⟨g,0,none⟩ (.int .i64 x0)).setCell ⟨g,1,none⟩ (.int .i64 x1)).setCell ⟨g,2,none⟩ (.int .i64 x2)).setCell ⟨g,3,none⟩ (.int .i64 x3)).setCell ⟨g,4,none⟩ (.int .i64 x4)).setCell ⟨g,5,none⟩ (.int .i64 x5)).setCell ⟨g,6,none⟩ (.int .i64 x6)).setCell ⟨g,7,none⟩ (.int .i64 x7)).setCell ⟨g,8,none⟩ (.int .i64 x8)).setCell ⟨g,9,none⟩ (.int .i64 x9)).setCell ⟨g,10,none⟩ (.int .i64 x10)).setCell ⟨g,11,none⟩ (.int .i64 x11)).setCell ⟨g,12,none⟩ (.int .i64 x12)).setCell ⟨g,13,none⟩ (.int .i64 x13)).setCell ⟨g,14,none⟩ (.int .i64 x14)).setCell ⟨g,15,none⟩ (.int .i64 x15)).setCell ⟨g,16,none⟩ (.int .i64 x16)).setCell ⟨g,17,none⟩ (.int .i64 x17)).setCell ⟨g,18,none⟩ (.int .i64 x18)).setCell ⟨g,19,none⟩ (.int .i64 x19)).setCell ⟨g,20,none⟩ (.int .i64 x20))) ?_ rfl
  have h := hb
  refine (lf_ h (show 0 < n by omega)).trans ?_
  replace h := h.put (b := g) (i := 0) (v := .int .i64 x0)
  refine (lf_ h (show 1 < n by omega)).trans ?_
  replace h := h.put (b := g) (i := 1) (v := .int .i64 x1)
  refine (lf_ h (show 2 < n by omega)).trans ?_
  replace h := h.put (b := g) (i := 2) (v := .int .i64 x2)
  refine (lf_ h (show 3 < n by omega)).trans ?_
  replace h := h.put (b := g) (i := 3) (v := .int .i64 x3)
  refine (lf_ h (show 4 < n by omega)).trans ?_
  replace h := h.put (b := g) (i := 4) (v := .int .i64 x4)
  refine (lf_ h (show 5 < n by omega)).trans ?_
  replace h := h.put (b := g) (i := 5) (v := .int .i64 x5)
  refine (lf_ h (show 6 < n by omega)).trans ?_
  replace h := h.put (b := g) (i := 6) (v := .int .i64 x6)
  refine (lf_ h (show 7 < n by omega)).trans ?_
  replace h := h.put (b := g) (i := 7) (v := .int .i64 x7)
  refine (lf_ h (show 8 < n by omega)).trans ?_
  replace h := h.put (b := g) (i := 8) (v := .int .i64 x8)
  refine (lf_ h (show 9 < n by omega)).trans ?_
  replace h := h.put (b := g) (i := 9) (v := .int .i64 x9)
  refine (lf_ h (show 10 < n by omega)).trans ?_
  replace h := h.put (b := g) (i := 10) (v := .int .i64 x10)
  refine (lf_ h (show 11 < n by omega)).trans ?_
  replace h := h.put (b := g) (i := 11) (v := .int .i64 x11)
  refine (lf_ h (show 12 < n by omega)).trans ?_
  replace h := h.put (b := g) (i := 12) (v := .int .i64 x12)
  refine (lf_ h (show 13 < n by omega)).trans ?_
  replace h := h.put (b := g) (i := 13) (v := .int .i64 x13)
  refine (lf_ h (show 14 < n by omega)).trans ?_
  replace h := h.put (b := g) (i := 14) (v := .int .i64 x14)
  refine (lf_ h (show 15 < n by omega)).trans ?_
  replace h := h.put (b := g) (i := 15) (v := .int .i64 x15)
  refine (lf_ h (show 16 < n by omega)).trans ?_
  replace h := h.put (b := g) (i := 16) (v := .int .i64 x16)
  refine (lf_ h (show 17 < n by omega)).trans ?_
  replace h := h.put (b := g) (i := 17) (v := .int .i64 x17)
  refine (lf_ h (show 18 < n by omega)).trans ?_
  replace h := h.put (b := g) (i := 18) (v := .int .i64 x18)
  refine (lf_ h (show 19 < n by omega)).trans ?_
  replace h := h.put (b := g) (i := 19) (v := .int .i64 x19)
  exact lf0_ h (show 20 < n by omega)
set_option maxRecDepth 100000 in
theorem ld27_ {e : Operand → Value} {o : Oper} {p : Operand} {W : World} {g : Nat} {tt : TypeId} {v0 v1 v2 v3 v4 v5 v6 v7 v8 v9 v10 v11 v12 v13 v14 v15 v16 v17 v18 v19 v20 : Value} (ho : o.op = .load 27 p) (hp : e p = .pointer (some ⟨g,0,none⟩)) (hb : W.heap[g]? = some (.cells #[v0,v1,v2,v3,v4,v5,v6,v7,v8,v9,v10,v11,v12,v13,v14,v15,v16,v17,v18,v19,v20] tt (0,0))) : (execOp e o).run Try.prog W = .ok (.value (.agg #[v0,v1,v2,v3,v4,v5,v6,v7,v8,v9,v10,v11,v12,v13,v14,v15,v16,v17,v18,v19,v20])) W := by
  have hu := Try.underlying27
  obtain ⟨o1, o2, o3, o4, o5, o6⟩ := o
  dsimp only at ho
  subst ho
  have hc := fun i => blk_cell hb i
  clear hb
  revert hc
  go_simp
  intro hc
  change Result.andThen (Result.andThen ((ldd Try.prog W ⟨g,0,none⟩ .plain).andThen fun a0 w => (ldd Try.prog w ⟨g,1,none⟩ .plain).andThen fun a1 w => (ldd Try.prog w ⟨g,2,none⟩ .plain).andThen fun a2 w => (ldd Try.prog w ⟨g,3,none⟩ .plain).andThen fun a3 w => (ldd Try.prog w ⟨g,4,none⟩ .plain).andThen fun a4 w => (ldd Try.prog w ⟨g,5,none⟩ .plain).andThen fun a5 w => (ldd Try.prog w ⟨g,6,none⟩ .plain).andThen fun a6 w => (ldd Try.prog w ⟨g,7,none⟩ .plain).andThen fun a7 w => (ldd Try.prog w ⟨g,8,none⟩ .plain).andThen fun a8 w => (ldd Try.prog w ⟨g,9,none⟩ .plain).andThen fun a9 w => (ldd Try.prog w ⟨g,10,none⟩ .plain).andThen fun a10 w => (ldd Try.prog w ⟨g,11,none⟩ .plain).andThen fun a11 w => (ldd Try.prog w ⟨g,12,none⟩ .plain).andThen fun a12 w => (ldd Try.prog w ⟨g,13,none⟩ .plain).andThen fun a13 w => (ldd Try.prog w ⟨g,14,none⟩ .plain).andThen fun a14 w => (ldd Try.prog w ⟨g,15,none⟩ .plain).andThen fun a15 w => (ldd Try.prog w ⟨g,16,none⟩ .plain).andThen fun a16 w => (ldd Try.prog w ⟨g,17,none⟩ .plain).andThen fun a17 w => (ldd Try.prog w ⟨g,18,none⟩ .plain).andThen fun a18 w => (ldd Try.prog w ⟨g,19,none⟩ .plain).andThen fun a19 w => (ldd Try.prog w ⟨g,20,none⟩ .plain).andThen fun a20 w => Result.ok #[a0,a1,a2,a3,a4,a5,a6,a7,a8,a9,a10,a11,a12,a13,a14,a15,a16,a17,a18,a19,a20] w) (fun a w => Result.ok (Value.agg a) w)) (fun a w => Result.ok (Next.value a) w) = _
  refine ao_ (a := Value.agg #[v0,v1,v2,v3,v4,v5,v6,v7,v8,v9,v10,v11,v12,v13,v14,v15,v16,v17,v18,v19,v20]) (w := W) (ao_ (a := #[v0,v1,v2,v3,v4,v5,v6,v7,v8,v9,v10,v11,v12,v13,v14,v15,v16,v17,v18,v19,v20]) (w := W) ?_ rfl) rfl
  refine (lg_ (v := v0) (hc 0)).trans ?_
  refine (lg_ (v := v1) (hc 1)).trans ?_
  refine (lg_ (v := v2) (hc 2)).trans ?_
  refine (lg_ (v := v3) (hc 3)).trans ?_
  refine (lg_ (v := v4) (hc 4)).trans ?_
  refine (lg_ (v := v5) (hc 5)).trans ?_
  refine (lg_ (v := v6) (hc 6)).trans ?_
  refine (lg_ (v := v7) (hc 7)).trans ?_
  refine (lg_ (v := v8) (hc 8)).trans ?_
  refine (lg_ (v := v9) (hc 9)).trans ?_
  refine (lg_ (v := v10) (hc 10)).trans ?_
  refine (lg_ (v := v11) (hc 11)).trans ?_
  refine (lg_ (v := v12) (hc 12)).trans ?_
  refine (lg_ (v := v13) (hc 13)).trans ?_
  refine (lg_ (v := v14) (hc 14)).trans ?_
  refine (lg_ (v := v15) (hc 15)).trans ?_
  refine (lg_ (v := v16) (hc 16)).trans ?_
  refine (lg_ (v := v17) (hc 17)).trans ?_
  refine (lg_ (v := v18) (hc 18)).trans ?_
  refine (lg_ (v := v19) (hc 19)).trans ?_
  refine (lg_ (v := v20) (hc 20)).trans ?_
  rfl
set_option maxRecDepth 100000 in
theorem st27o3_ {e : Operand → Value} {o : Oper} {p v : Operand} {W : World} {g n : Nat} {x0 : Int} {x1 : Int} {x2 : Int} {x3 : Int} {x4 : Int} {x5 : Int} {x6 : Int} {x7 : Int} {x8 : Int} {x9 : Int} {x10 : Int} {x11 : Int} {x12 : Int} {x13 : Int} {x14 : Int} {x15 : Int} {x16 : Int} {x17 : Int} {x18 : Int} {x19 : Int} {x20 : Int} (ho : o.op = .store 27 p v) (hp : e p = .pointer (some ⟨g,3,none⟩)) (hv : e v = .agg #[.int .i64 x0,.int .i64 x1,.int .i64 x2,.int .i64 x3,.int .i64 x4,.int .i64 x5,.int .i64 x6,.int .i64 x7,.int .i64 x8,.int .i64 x9,.int .i64 x10,.int .i64 x11,.int .i64 x12,.int .i64 x13,.int .i64 x14,.int .i64 x15,.int .i64 x16,.int .i64 x17,.int .i64 x18,.int .i64 x19,.int .i64 x20]) (hb : Blk W g n) (hn : 24 ≤ n) : (execOp e o).run Try.prog W = .ok .skip (((((((((((((((((((((W.setCell ⟨g,3,none⟩ (.int .i64 x0)).setCell ⟨g,4,none⟩ (.int .i64 x1)).setCell ⟨g,5,none⟩ (.int .i64 x2)).setCell ⟨g,6,none⟩ (.int .i64 x3)).setCell ⟨g,7,none⟩ (.int .i64 x4)).setCell ⟨g,8,none⟩ (.int .i64 x5)).setCell ⟨g,9,none⟩ (.int .i64 x6)).setCell ⟨g,10,none⟩ (.int .i64 x7)).setCell ⟨g,11,none⟩ (.int .i64 x8)).setCell ⟨g,12,none⟩ (.int .i64 x9)).setCell ⟨g,13,none⟩ (.int .i64 x10)).setCell ⟨g,14,none⟩ (.int .i64 x11)).setCell ⟨g,15,none⟩ (.int .i64 x12)).setCell ⟨g,16,none⟩ (.int .i64 x13)).setCell ⟨g,17,none⟩ (.int .i64 x14)).setCell ⟨g,18,none⟩ (.int .i64 x15)).setCell ⟨g,19,none⟩ (.int .i64 x16)).setCell ⟨g,20,none⟩ (.int .i64 x17)).setCell ⟨g,21,none⟩ (.int .i64 x18)).setCell ⟨g,22,none⟩ (.int .i64 x19)).setCell ⟨g,23,none⟩ (.int .i64 x20)) := by
  have hu := Try.underlying27
  obtain ⟨o1, o2, o3, o4, o5, o6⟩ := o
  dsimp only at ho
  subst ho
  go_simp
  change Result.andThen ((stored Try.prog W ⟨g,3,none⟩ (.int .i64 x0) .plain).andThen fun _ w => (stored Try.prog w ⟨g,4,none⟩ (.int .i64 x1) .plain).andThen fun _ w => (stored Try.prog w ⟨g,5,none⟩ (.int .i64 x2) .plain).andThen fun _ w => (stored Try.prog w ⟨g,6,none⟩ (.int .i64 x3) .plain).andThen fun _ w => (stored Try.prog w ⟨g,7,none⟩ (.int .i64 x4) .plain).andThen fun _ w => (stored Try.prog w ⟨g,8,none⟩ (.int .i64 x5) .plain).andThen fun _ w => (stored Try.prog w ⟨g,9,none⟩ (.int .i64 x6) .plain).andThen fun _ w => (stored Try.prog w ⟨g,10,none⟩ (.int .i64 x7) .plain).andThen fun _ w => (stored Try.prog w ⟨g,11,none⟩ (.int .i64 x8) .plain).andThen fun _ w => (stored Try.prog w ⟨g,12,none⟩ (.int .i64 x9) .plain).andThen fun _ w => (stored Try.prog w ⟨g,13,none⟩ (.int .i64 x10) .plain).andThen fun _ w => (stored Try.prog w ⟨g,14,none⟩ (.int .i64 x11) .plain).andThen fun _ w => (stored Try.prog w ⟨g,15,none⟩ (.int .i64 x12) .plain).andThen fun _ w => (stored Try.prog w ⟨g,16,none⟩ (.int .i64 x13) .plain).andThen fun _ w => (stored Try.prog w ⟨g,17,none⟩ (.int .i64 x14) .plain).andThen fun _ w => (stored Try.prog w ⟨g,18,none⟩ (.int .i64 x15) .plain).andThen fun _ w => (stored Try.prog w ⟨g,19,none⟩ (.int .i64 x16) .plain).andThen fun _ w => (stored Try.prog w ⟨g,20,none⟩ (.int .i64 x17) .plain).andThen fun _ w => (stored Try.prog w ⟨g,21,none⟩ (.int .i64 x18) .plain).andThen fun _ w => (stored Try.prog w ⟨g,22,none⟩ (.int .i64 x19) .plain).andThen fun _ w => stored Try.prog w ⟨g,23,none⟩ (.int .i64 x20) .plain) (fun _ w => Result.ok Next.skip w) = _
  refine ao_ (a := ()) (w := (((((((((((((((((((((W.setCell ⟨g,3,none⟩ (.int .i64 x0)).setCell ⟨g,4,none⟩ (.int .i64 x1)).setCell ⟨g,5,none⟩ (.int .i64 x2)).setCell ⟨g,6,none⟩ (.int .i64 x3)).setCell ⟨g,7,none⟩ (.int .i64 x4)).setCell ⟨g,8,none⟩ (.int .i64 x5)).setCell ⟨g,9,none⟩ (.int .i64 x6)).setCell ⟨g,10,none⟩ (.int .i64 x7)).setCell ⟨g,11,none⟩ (.int .i64 x8)).setCell ⟨g,12,none⟩ (.int .i64 x9)).setCell ⟨g,13,none⟩ (.int .i64 x10)).setCell ⟨g,14,none⟩ (.int .i64 x11)).setCell ⟨g,15,none⟩ (.int .i64 x12)).setCell ⟨g,16,none⟩ (.int .i64 x13)).setCell ⟨g,17,none⟩ (.int .i64 x14)).setCell ⟨g,18,none⟩ (.int .i64 x15)).setCell ⟨g,19,none⟩ (.int .i64 x16)).setCell ⟨g,20,none⟩ (.int .i64 x17)).setCell ⟨g,21,none⟩ (.int .i64 x18)).setCell ⟨g,22,none⟩ (.int .i64 x19)).setCell ⟨g,23,none⟩ (.int .i64 x20))) ?_ rfl
  have h := hb
  refine (lf_ h (show 3 < n by omega)).trans ?_
  replace h := h.put (b := g) (i := 3) (v := .int .i64 x0)
  refine (lf_ h (show 4 < n by omega)).trans ?_
  replace h := h.put (b := g) (i := 4) (v := .int .i64 x1)
  refine (lf_ h (show 5 < n by omega)).trans ?_
  replace h := h.put (b := g) (i := 5) (v := .int .i64 x2)
  refine (lf_ h (show 6 < n by omega)).trans ?_
  replace h := h.put (b := g) (i := 6) (v := .int .i64 x3)
  refine (lf_ h (show 7 < n by omega)).trans ?_
  replace h := h.put (b := g) (i := 7) (v := .int .i64 x4)
  refine (lf_ h (show 8 < n by omega)).trans ?_
  replace h := h.put (b := g) (i := 8) (v := .int .i64 x5)
  refine (lf_ h (show 9 < n by omega)).trans ?_
  replace h := h.put (b := g) (i := 9) (v := .int .i64 x6)
  refine (lf_ h (show 10 < n by omega)).trans ?_
  replace h := h.put (b := g) (i := 10) (v := .int .i64 x7)
  refine (lf_ h (show 11 < n by omega)).trans ?_
  replace h := h.put (b := g) (i := 11) (v := .int .i64 x8)
  refine (lf_ h (show 12 < n by omega)).trans ?_
  replace h := h.put (b := g) (i := 12) (v := .int .i64 x9)
  refine (lf_ h (show 13 < n by omega)).trans ?_
  replace h := h.put (b := g) (i := 13) (v := .int .i64 x10)
  refine (lf_ h (show 14 < n by omega)).trans ?_
  replace h := h.put (b := g) (i := 14) (v := .int .i64 x11)
  refine (lf_ h (show 15 < n by omega)).trans ?_
  replace h := h.put (b := g) (i := 15) (v := .int .i64 x12)
  refine (lf_ h (show 16 < n by omega)).trans ?_
  replace h := h.put (b := g) (i := 16) (v := .int .i64 x13)
  refine (lf_ h (show 17 < n by omega)).trans ?_
  replace h := h.put (b := g) (i := 17) (v := .int .i64 x14)
  refine (lf_ h (show 18 < n by omega)).trans ?_
  replace h := h.put (b := g) (i := 18) (v := .int .i64 x15)
  refine (lf_ h (show 19 < n by omega)).trans ?_
  replace h := h.put (b := g) (i := 19) (v := .int .i64 x16)
  refine (lf_ h (show 20 < n by omega)).trans ?_
  replace h := h.put (b := g) (i := 20) (v := .int .i64 x17)
  refine (lf_ h (show 21 < n by omega)).trans ?_
  replace h := h.put (b := g) (i := 21) (v := .int .i64 x18)
  refine (lf_ h (show 22 < n by omega)).trans ?_
  replace h := h.put (b := g) (i := 22) (v := .int .i64 x19)
  exact lf0_ h (show 23 < n by omega)
set_option maxRecDepth 100000 in
theorem ld27o3_ {e : Operand → Value} {o : Oper} {p : Operand} {W : World} {g : Nat} {tt : TypeId} {v0 v1 v2 v3 v4 v5 v6 v7 v8 v9 v10 v11 v12 v13 v14 v15 v16 v17 v18 v19 v20 : Value} (ho : o.op = .load 27 p) (hp : e p = .pointer (some ⟨g,3,none⟩)) {cs : Array Value} (hb : W.heap[g]? = some (.cells cs tt (0,0))) (e0 : cs[3]? = some v0) (e1 : cs[4]? = some v1) (e2 : cs[5]? = some v2) (e3 : cs[6]? = some v3) (e4 : cs[7]? = some v4) (e5 : cs[8]? = some v5) (e6 : cs[9]? = some v6) (e7 : cs[10]? = some v7) (e8 : cs[11]? = some v8) (e9 : cs[12]? = some v9) (e10 : cs[13]? = some v10) (e11 : cs[14]? = some v11) (e12 : cs[15]? = some v12) (e13 : cs[16]? = some v13) (e14 : cs[17]? = some v14) (e15 : cs[18]? = some v15) (e16 : cs[19]? = some v16) (e17 : cs[20]? = some v17) (e18 : cs[21]? = some v18) (e19 : cs[22]? = some v19) (e20 : cs[23]? = some v20) : (execOp e o).run Try.prog W = .ok (.value (.agg #[v0,v1,v2,v3,v4,v5,v6,v7,v8,v9,v10,v11,v12,v13,v14,v15,v16,v17,v18,v19,v20])) W := by
  have hu := Try.underlying27
  obtain ⟨o1, o2, o3, o4, o5, o6⟩ := o
  dsimp only at ho
  subst ho
  have hc := fun i => blk_cell hb i
  clear hb
  revert hc
  revert e0 e1 e2 e3 e4 e5 e6 e7 e8 e9 e10 e11 e12 e13 e14 e15 e16 e17 e18 e19 e20
  go_simp
  intro e0 e1 e2 e3 e4 e5 e6 e7 e8 e9 e10 e11 e12 e13 e14 e15 e16 e17 e18 e19 e20 hc
  change Result.andThen (Result.andThen ((ldd Try.prog W ⟨g,3,none⟩ .plain).andThen fun a0 w => (ldd Try.prog w ⟨g,4,none⟩ .plain).andThen fun a1 w => (ldd Try.prog w ⟨g,5,none⟩ .plain).andThen fun a2 w => (ldd Try.prog w ⟨g,6,none⟩ .plain).andThen fun a3 w => (ldd Try.prog w ⟨g,7,none⟩ .plain).andThen fun a4 w => (ldd Try.prog w ⟨g,8,none⟩ .plain).andThen fun a5 w => (ldd Try.prog w ⟨g,9,none⟩ .plain).andThen fun a6 w => (ldd Try.prog w ⟨g,10,none⟩ .plain).andThen fun a7 w => (ldd Try.prog w ⟨g,11,none⟩ .plain).andThen fun a8 w => (ldd Try.prog w ⟨g,12,none⟩ .plain).andThen fun a9 w => (ldd Try.prog w ⟨g,13,none⟩ .plain).andThen fun a10 w => (ldd Try.prog w ⟨g,14,none⟩ .plain).andThen fun a11 w => (ldd Try.prog w ⟨g,15,none⟩ .plain).andThen fun a12 w => (ldd Try.prog w ⟨g,16,none⟩ .plain).andThen fun a13 w => (ldd Try.prog w ⟨g,17,none⟩ .plain).andThen fun a14 w => (ldd Try.prog w ⟨g,18,none⟩ .plain).andThen fun a15 w => (ldd Try.prog w ⟨g,19,none⟩ .plain).andThen fun a16 w => (ldd Try.prog w ⟨g,20,none⟩ .plain).andThen fun a17 w => (ldd Try.prog w ⟨g,21,none⟩ .plain).andThen fun a18 w => (ldd Try.prog w ⟨g,22,none⟩ .plain).andThen fun a19 w => (ldd Try.prog w ⟨g,23,none⟩ .plain).andThen fun a20 w => Result.ok #[a0,a1,a2,a3,a4,a5,a6,a7,a8,a9,a10,a11,a12,a13,a14,a15,a16,a17,a18,a19,a20] w) (fun a w => Result.ok (Value.agg a) w)) (fun a w => Result.ok (Next.value a) w) = _
  refine ao_ (a := Value.agg #[v0,v1,v2,v3,v4,v5,v6,v7,v8,v9,v10,v11,v12,v13,v14,v15,v16,v17,v18,v19,v20]) (w := W) (ao_ (a := #[v0,v1,v2,v3,v4,v5,v6,v7,v8,v9,v10,v11,v12,v13,v14,v15,v16,v17,v18,v19,v20]) (w := W) ?_ rfl) rfl
  refine (lg_ (v := v0) ((hc 3).trans e0)).trans ?_
  refine (lg_ (v := v1) ((hc 4).trans e1)).trans ?_
  refine (lg_ (v := v2) ((hc 5).trans e2)).trans ?_
  refine (lg_ (v := v3) ((hc 6).trans e3)).trans ?_
  refine (lg_ (v := v4) ((hc 7).trans e4)).trans ?_
  refine (lg_ (v := v5) ((hc 8).trans e5)).trans ?_
  refine (lg_ (v := v6) ((hc 9).trans e6)).trans ?_
  refine (lg_ (v := v7) ((hc 10).trans e7)).trans ?_
  refine (lg_ (v := v8) ((hc 11).trans e8)).trans ?_
  refine (lg_ (v := v9) ((hc 12).trans e9)).trans ?_
  refine (lg_ (v := v10) ((hc 13).trans e10)).trans ?_
  refine (lg_ (v := v11) ((hc 14).trans e11)).trans ?_
  refine (lg_ (v := v12) ((hc 15).trans e12)).trans ?_
  refine (lg_ (v := v13) ((hc 16).trans e13)).trans ?_
  refine (lg_ (v := v14) ((hc 17).trans e14)).trans ?_
  refine (lg_ (v := v15) ((hc 18).trans e15)).trans ?_
  refine (lg_ (v := v16) ((hc 19).trans e16)).trans ?_
  refine (lg_ (v := v17) ((hc 20).trans e17)).trans ?_
  refine (lg_ (v := v18) ((hc 21).trans e18)).trans ?_
  refine (lg_ (v := v19) ((hc 22).trans e19)).trans ?_
  refine (lg_ (v := v20) ((hc 23).trans e20)).trans ?_
  rfl
set_option maxRecDepth 100000 in
theorem st32_ {e : Operand → Value} {o : Oper} {p v : Operand} {W : World} {g n : Nat} {x0 : Int} {x1 : Int} {x2 : Int} {x3 : Int} {x4 : Int} {x5 : Int} {x6 : Int} {x7 : Int} {x8 : Int} {x9 : Int} {x10 : Int} {x11 : Int} {x12 : Int} {x13 : Int} {x14 : Int} {x15 : Int} {x16 : Int} {x17 : Int} {x18 : Int} {x19 : Int} {x20 : Int} {x21 : Int} {x22 : Int} {x23 : Int} {x24 : Int} {x25 : Int} {x26 : Int} {x27 : Int} {x28 : Bool} {A29 : Option Addr} {n29 c29 : Nat} (ho : o.op = .store 32 p v) (hp : e p = .pointer (some ⟨g,0,none⟩)) (hv : e v = .agg #[.int .i64 x0,.int .i64 x1,.int .i64 x2,.int .i64 x3,.int .i64 x4,.int .i64 x5,.int .i64 x6,.int .i64 x7,.int .i64 x8,.int .i64 x9,.int .i64 x10,.int .i64 x11,.int .i64 x12,.int .i64 x13,.int .i64 x14,.int .i64 x15,.int .i64 x16,.int .i64 x17,.int .i64 x18,.int .i64 x19,.int .i64 x20,.int .i64 x21,.int .i64 x22,.int .i64 x23,.int .i64 x24,.int .i64 x25,.int .i64 x26,.int .i64 x27,.bool x28,.slice A29 n29 c29]) (hb : Blk W g n) (hn : 30 ≤ n) : (execOp e o).run Try.prog W = .ok .skip ((((((((((((((((((((((((((((((W.setCell ⟨g,0,none⟩ (.int .i64 x0)).setCell ⟨g,1,none⟩ (.int .i64 x1)).setCell ⟨g,2,none⟩ (.int .i64 x2)).setCell ⟨g,3,none⟩ (.int .i64 x3)).setCell ⟨g,4,none⟩ (.int .i64 x4)).setCell ⟨g,5,none⟩ (.int .i64 x5)).setCell ⟨g,6,none⟩ (.int .i64 x6)).setCell ⟨g,7,none⟩ (.int .i64 x7)).setCell ⟨g,8,none⟩ (.int .i64 x8)).setCell ⟨g,9,none⟩ (.int .i64 x9)).setCell ⟨g,10,none⟩ (.int .i64 x10)).setCell ⟨g,11,none⟩ (.int .i64 x11)).setCell ⟨g,12,none⟩ (.int .i64 x12)).setCell ⟨g,13,none⟩ (.int .i64 x13)).setCell ⟨g,14,none⟩ (.int .i64 x14)).setCell ⟨g,15,none⟩ (.int .i64 x15)).setCell ⟨g,16,none⟩ (.int .i64 x16)).setCell ⟨g,17,none⟩ (.int .i64 x17)).setCell ⟨g,18,none⟩ (.int .i64 x18)).setCell ⟨g,19,none⟩ (.int .i64 x19)).setCell ⟨g,20,none⟩ (.int .i64 x20)).setCell ⟨g,21,none⟩ (.int .i64 x21)).setCell ⟨g,22,none⟩ (.int .i64 x22)).setCell ⟨g,23,none⟩ (.int .i64 x23)).setCell ⟨g,24,none⟩ (.int .i64 x24)).setCell ⟨g,25,none⟩ (.int .i64 x25)).setCell ⟨g,26,none⟩ (.int .i64 x26)).setCell ⟨g,27,none⟩ (.int .i64 x27)).setCell ⟨g,28,none⟩ (.bool x28)).setCell ⟨g,29,none⟩ (.slice A29 n29 c29)) := by
  have hu := Try.underlying32
  obtain ⟨o1, o2, o3, o4, o5, o6⟩ := o
  dsimp only at ho
  subst ho
  go_simp
  change Result.andThen ((stored Try.prog W ⟨g,0,none⟩ (.int .i64 x0) .plain).andThen fun _ w => (stored Try.prog w ⟨g,1,none⟩ (.int .i64 x1) .plain).andThen fun _ w => (stored Try.prog w ⟨g,2,none⟩ (.int .i64 x2) .plain).andThen fun _ w => (stored Try.prog w ⟨g,3,none⟩ (.int .i64 x3) .plain).andThen fun _ w => (stored Try.prog w ⟨g,4,none⟩ (.int .i64 x4) .plain).andThen fun _ w => (stored Try.prog w ⟨g,5,none⟩ (.int .i64 x5) .plain).andThen fun _ w => (stored Try.prog w ⟨g,6,none⟩ (.int .i64 x6) .plain).andThen fun _ w => (stored Try.prog w ⟨g,7,none⟩ (.int .i64 x7) .plain).andThen fun _ w => (stored Try.prog w ⟨g,8,none⟩ (.int .i64 x8) .plain).andThen fun _ w => (stored Try.prog w ⟨g,9,none⟩ (.int .i64 x9) .plain).andThen fun _ w => (stored Try.prog w ⟨g,10,none⟩ (.int .i64 x10) .plain).andThen fun _ w => (stored Try.prog w ⟨g,11,none⟩ (.int .i64 x11) .plain).andThen fun _ w => (stored Try.prog w ⟨g,12,none⟩ (.int .i64 x12) .plain).andThen fun _ w => (stored Try.prog w ⟨g,13,none⟩ (.int .i64 x13) .plain).andThen fun _ w => (stored Try.prog w ⟨g,14,none⟩ (.int .i64 x14) .plain).andThen fun _ w => (stored Try.prog w ⟨g,15,none⟩ (.int .i64 x15) .plain).andThen fun _ w => (stored Try.prog w ⟨g,16,none⟩ (.int .i64 x16) .plain).andThen fun _ w => (stored Try.prog w ⟨g,17,none⟩ (.int .i64 x17) .plain).andThen fun _ w => (stored Try.prog w ⟨g,18,none⟩ (.int .i64 x18) .plain).andThen fun _ w => (stored Try.prog w ⟨g,19,none⟩ (.int .i64 x19) .plain).andThen fun _ w => (stored Try.prog w ⟨g,20,none⟩ (.int .i64 x20) .plain).andThen fun _ w => (stored Try.prog w ⟨g,21,none⟩ (.int .i64 x21) .plain).andThen fun _ w => (stored Try.prog w ⟨g,22,none⟩ (.int .i64 x22) .plain).andThen fun _ w => (stored Try.prog w ⟨g,23,none⟩ (.int .i64 x23) .plain).andThen fun _ w => (stored Try.prog w ⟨g,24,none⟩ (.int .i64 x24) .plain).andThen fun _ w => (stored Try.prog w ⟨g,25,none⟩ (.int .i64 x25) .plain).andThen fun _ w => (stored Try.prog w ⟨g,26,none⟩ (.int .i64 x26) .plain).andThen fun _ w => (stored Try.prog w ⟨g,27,none⟩ (.int .i64 x27) .plain).andThen fun _ w => (stored Try.prog w ⟨g,28,none⟩ (.bool x28) .plain).andThen fun _ w => stored Try.prog w ⟨g,29,none⟩ (.slice A29 n29 c29) .plain) (fun _ w => Result.ok Next.skip w) = _
  refine ao_ (a := ()) (w := ((((((((((((((((((((((((((((((W.setCell ⟨g,0,none⟩ (.int .i64 x0)).setCell ⟨g,1,none⟩ (.int .i64 x1)).setCell ⟨g,2,none⟩ (.int .i64 x2)).setCell ⟨g,3,none⟩ (.int .i64 x3)).setCell ⟨g,4,none⟩ (.int .i64 x4)).setCell ⟨g,5,none⟩ (.int .i64 x5)).setCell ⟨g,6,none⟩ (.int .i64 x6)).setCell ⟨g,7,none⟩ (.int .i64 x7)).setCell ⟨g,8,none⟩ (.int .i64 x8)).setCell ⟨g,9,none⟩ (.int .i64 x9)).setCell ⟨g,10,none⟩ (.int .i64 x10)).setCell ⟨g,11,none⟩ (.int .i64 x11)).setCell ⟨g,12,none⟩ (.int .i64 x12)).setCell ⟨g,13,none⟩ (.int .i64 x13)).setCell ⟨g,14,none⟩ (.int .i64 x14)).setCell ⟨g,15,none⟩ (.int .i64 x15)).setCell ⟨g,16,none⟩ (.int .i64 x16)).setCell ⟨g,17,none⟩ (.int .i64 x17)).setCell ⟨g,18,none⟩ (.int .i64 x18)).setCell ⟨g,19,none⟩ (.int .i64 x19)).setCell ⟨g,20,none⟩ (.int .i64 x20)).setCell ⟨g,21,none⟩ (.int .i64 x21)).setCell ⟨g,22,none⟩ (.int .i64 x22)).setCell ⟨g,23,none⟩ (.int .i64 x23)).setCell ⟨g,24,none⟩ (.int .i64 x24)).setCell ⟨g,25,none⟩ (.int .i64 x25)).setCell ⟨g,26,none⟩ (.int .i64 x26)).setCell ⟨g,27,none⟩ (.int .i64 x27)).setCell ⟨g,28,none⟩ (.bool x28)).setCell ⟨g,29,none⟩ (.slice A29 n29 c29))) ?_ rfl
  have h := hb
  refine (lf_ h (show 0 < n by omega)).trans ?_
  replace h := h.put (b := g) (i := 0) (v := .int .i64 x0)
  refine (lf_ h (show 1 < n by omega)).trans ?_
  replace h := h.put (b := g) (i := 1) (v := .int .i64 x1)
  refine (lf_ h (show 2 < n by omega)).trans ?_
  replace h := h.put (b := g) (i := 2) (v := .int .i64 x2)
  refine (lf_ h (show 3 < n by omega)).trans ?_
  replace h := h.put (b := g) (i := 3) (v := .int .i64 x3)
  refine (lf_ h (show 4 < n by omega)).trans ?_
  replace h := h.put (b := g) (i := 4) (v := .int .i64 x4)
  refine (lf_ h (show 5 < n by omega)).trans ?_
  replace h := h.put (b := g) (i := 5) (v := .int .i64 x5)
  refine (lf_ h (show 6 < n by omega)).trans ?_
  replace h := h.put (b := g) (i := 6) (v := .int .i64 x6)
  refine (lf_ h (show 7 < n by omega)).trans ?_
  replace h := h.put (b := g) (i := 7) (v := .int .i64 x7)
  refine (lf_ h (show 8 < n by omega)).trans ?_
  replace h := h.put (b := g) (i := 8) (v := .int .i64 x8)
  refine (lf_ h (show 9 < n by omega)).trans ?_
  replace h := h.put (b := g) (i := 9) (v := .int .i64 x9)
  refine (lf_ h (show 10 < n by omega)).trans ?_
  replace h := h.put (b := g) (i := 10) (v := .int .i64 x10)
  refine (lf_ h (show 11 < n by omega)).trans ?_
  replace h := h.put (b := g) (i := 11) (v := .int .i64 x11)
  refine (lf_ h (show 12 < n by omega)).trans ?_
  replace h := h.put (b := g) (i := 12) (v := .int .i64 x12)
  refine (lf_ h (show 13 < n by omega)).trans ?_
  replace h := h.put (b := g) (i := 13) (v := .int .i64 x13)
  refine (lf_ h (show 14 < n by omega)).trans ?_
  replace h := h.put (b := g) (i := 14) (v := .int .i64 x14)
  refine (lf_ h (show 15 < n by omega)).trans ?_
  replace h := h.put (b := g) (i := 15) (v := .int .i64 x15)
  refine (lf_ h (show 16 < n by omega)).trans ?_
  replace h := h.put (b := g) (i := 16) (v := .int .i64 x16)
  refine (lf_ h (show 17 < n by omega)).trans ?_
  replace h := h.put (b := g) (i := 17) (v := .int .i64 x17)
  refine (lf_ h (show 18 < n by omega)).trans ?_
  replace h := h.put (b := g) (i := 18) (v := .int .i64 x18)
  refine (lf_ h (show 19 < n by omega)).trans ?_
  replace h := h.put (b := g) (i := 19) (v := .int .i64 x19)
  refine (lf_ h (show 20 < n by omega)).trans ?_
  replace h := h.put (b := g) (i := 20) (v := .int .i64 x20)
  refine (lf_ h (show 21 < n by omega)).trans ?_
  replace h := h.put (b := g) (i := 21) (v := .int .i64 x21)
  refine (lf_ h (show 22 < n by omega)).trans ?_
  replace h := h.put (b := g) (i := 22) (v := .int .i64 x22)
  refine (lf_ h (show 23 < n by omega)).trans ?_
  replace h := h.put (b := g) (i := 23) (v := .int .i64 x23)
  refine (lf_ h (show 24 < n by omega)).trans ?_
  replace h := h.put (b := g) (i := 24) (v := .int .i64 x24)
  refine (lf_ h (show 25 < n by omega)).trans ?_
  replace h := h.put (b := g) (i := 25) (v := .int .i64 x25)
  refine (lf_ h (show 26 < n by omega)).trans ?_
  replace h := h.put (b := g) (i := 26) (v := .int .i64 x26)
  refine (lf_ h (show 27 < n by omega)).trans ?_
  replace h := h.put (b := g) (i := 27) (v := .int .i64 x27)
  refine (lf_ h (show 28 < n by omega)).trans ?_
  replace h := h.put (b := g) (i := 28) (v := .bool x28)
  exact lf0_ h (show 29 < n by omega)
set_option maxRecDepth 100000 in
theorem ld32_ {e : Operand → Value} {o : Oper} {p : Operand} {W : World} {g : Nat} {tt : TypeId} {v0 v1 v2 v3 v4 v5 v6 v7 v8 v9 v10 v11 v12 v13 v14 v15 v16 v17 v18 v19 v20 v21 v22 v23 v24 v25 v26 v27 v28 v29 : Value} (ho : o.op = .load 32 p) (hp : e p = .pointer (some ⟨g,0,none⟩)) (hb : W.heap[g]? = some (.cells #[v0,v1,v2,v3,v4,v5,v6,v7,v8,v9,v10,v11,v12,v13,v14,v15,v16,v17,v18,v19,v20,v21,v22,v23,v24,v25,v26,v27,v28,v29] tt (0,0))) : (execOp e o).run Try.prog W = .ok (.value (.agg #[v0,v1,v2,v3,v4,v5,v6,v7,v8,v9,v10,v11,v12,v13,v14,v15,v16,v17,v18,v19,v20,v21,v22,v23,v24,v25,v26,v27,v28,v29])) W := by
  have hu := Try.underlying32
  obtain ⟨o1, o2, o3, o4, o5, o6⟩ := o
  dsimp only at ho
  subst ho
  have hc := fun i => blk_cell hb i
  clear hb
  revert hc
  go_simp
  intro hc
  change Result.andThen (Result.andThen ((ldd Try.prog W ⟨g,0,none⟩ .plain).andThen fun a0 w => (ldd Try.prog w ⟨g,1,none⟩ .plain).andThen fun a1 w => (ldd Try.prog w ⟨g,2,none⟩ .plain).andThen fun a2 w => (ldd Try.prog w ⟨g,3,none⟩ .plain).andThen fun a3 w => (ldd Try.prog w ⟨g,4,none⟩ .plain).andThen fun a4 w => (ldd Try.prog w ⟨g,5,none⟩ .plain).andThen fun a5 w => (ldd Try.prog w ⟨g,6,none⟩ .plain).andThen fun a6 w => (ldd Try.prog w ⟨g,7,none⟩ .plain).andThen fun a7 w => (ldd Try.prog w ⟨g,8,none⟩ .plain).andThen fun a8 w => (ldd Try.prog w ⟨g,9,none⟩ .plain).andThen fun a9 w => (ldd Try.prog w ⟨g,10,none⟩ .plain).andThen fun a10 w => (ldd Try.prog w ⟨g,11,none⟩ .plain).andThen fun a11 w => (ldd Try.prog w ⟨g,12,none⟩ .plain).andThen fun a12 w => (ldd Try.prog w ⟨g,13,none⟩ .plain).andThen fun a13 w => (ldd Try.prog w ⟨g,14,none⟩ .plain).andThen fun a14 w => (ldd Try.prog w ⟨g,15,none⟩ .plain).andThen fun a15 w => (ldd Try.prog w ⟨g,16,none⟩ .plain).andThen fun a16 w => (ldd Try.prog w ⟨g,17,none⟩ .plain).andThen fun a17 w => (ldd Try.prog w ⟨g,18,none⟩ .plain).andThen fun a18 w => (ldd Try.prog w ⟨g,19,none⟩ .plain).andThen fun a19 w => (ldd Try.prog w ⟨g,20,none⟩ .plain).andThen fun a20 w => (ldd Try.prog w ⟨g,21,none⟩ .plain).andThen fun a21 w => (ldd Try.prog w ⟨g,22,none⟩ .plain).andThen fun a22 w => (ldd Try.prog w ⟨g,23,none⟩ .plain).andThen fun a23 w => (ldd Try.prog w ⟨g,24,none⟩ .plain).andThen fun a24 w => (ldd Try.prog w ⟨g,25,none⟩ .plain).andThen fun a25 w => (ldd Try.prog w ⟨g,26,none⟩ .plain).andThen fun a26 w => (ldd Try.prog w ⟨g,27,none⟩ .plain).andThen fun a27 w => (ldd Try.prog w ⟨g,28,none⟩ .plain).andThen fun a28 w => (ldd Try.prog w ⟨g,29,none⟩ .plain).andThen fun a29 w => Result.ok #[a0,a1,a2,a3,a4,a5,a6,a7,a8,a9,a10,a11,a12,a13,a14,a15,a16,a17,a18,a19,a20,a21,a22,a23,a24,a25,a26,a27,a28,a29] w) (fun a w => Result.ok (Value.agg a) w)) (fun a w => Result.ok (Next.value a) w) = _
  refine ao_ (a := Value.agg #[v0,v1,v2,v3,v4,v5,v6,v7,v8,v9,v10,v11,v12,v13,v14,v15,v16,v17,v18,v19,v20,v21,v22,v23,v24,v25,v26,v27,v28,v29]) (w := W) (ao_ (a := #[v0,v1,v2,v3,v4,v5,v6,v7,v8,v9,v10,v11,v12,v13,v14,v15,v16,v17,v18,v19,v20,v21,v22,v23,v24,v25,v26,v27,v28,v29]) (w := W) ?_ rfl) rfl
  refine (lg_ (v := v0) (hc 0)).trans ?_
  refine (lg_ (v := v1) (hc 1)).trans ?_
  refine (lg_ (v := v2) (hc 2)).trans ?_
  refine (lg_ (v := v3) (hc 3)).trans ?_
  refine (lg_ (v := v4) (hc 4)).trans ?_
  refine (lg_ (v := v5) (hc 5)).trans ?_
  refine (lg_ (v := v6) (hc 6)).trans ?_
  refine (lg_ (v := v7) (hc 7)).trans ?_
  refine (lg_ (v := v8) (hc 8)).trans ?_
  refine (lg_ (v := v9) (hc 9)).trans ?_
  refine (lg_ (v := v10) (hc 10)).trans ?_
  refine (lg_ (v := v11) (hc 11)).trans ?_
  refine (lg_ (v := v12) (hc 12)).trans ?_
  refine (lg_ (v := v13) (hc 13)).trans ?_
  refine (lg_ (v := v14) (hc 14)).trans ?_
  refine (lg_ (v := v15) (hc 15)).trans ?_
  refine (lg_ (v := v16) (hc 16)).trans ?_
  refine (lg_ (v := v17) (hc 17)).trans ?_
  refine (lg_ (v := v18) (hc 18)).trans ?_
  refine (lg_ (v := v19) (hc 19)).trans ?_
  refine (lg_ (v := v20) (hc 20)).trans ?_
  refine (lg_ (v := v21) (hc 21)).trans ?_
  refine (lg_ (v := v22) (hc 22)).trans ?_
  refine (lg_ (v := v23) (hc 23)).trans ?_
  refine (lg_ (v := v24) (hc 24)).trans ?_
  refine (lg_ (v := v25) (hc 25)).trans ?_
  refine (lg_ (v := v26) (hc 26)).trans ?_
  refine (lg_ (v := v27) (hc 27)).trans ?_
  refine (lg_ (v := v28) (hc 28)).trans ?_
  refine (lg_ (v := v29) (hc 29)).trans ?_
  rfl
set_option maxRecDepth 100000 in
theorem st39_ {e : Operand → Value} {o : Oper} {p v : Operand} {W : World} {g n : Nat} {x0 : Int} {x1 : Int} {x2 : Int} {x3 : Int} {x4 : Int} {x5 : Int} {x6 : Int} {x7 : Int} {x8 : Int} {x9 : Int} {x10 : Int} {x11 : Int} {x12 : Int} {x13 : Int} {x14 : Int} {x15 : Int} {x16 : Int} {x17 : Int} {x18 : Int} {x19 : Int} {x20 : Int} (ho : o.op = .store 39 p v) (hp : e p = .pointer (some ⟨g,0,none⟩)) (hv : e v = .agg #[.int .i64 x0,.int .i64 x1,.int .i64 x2,.int .i64 x3,.int .i64 x4,.int .i64 x5,.int .i64 x6,.int .i64 x7,.int .i64 x8,.int .i64 x9,.int .i64 x10,.int .i64 x11,.int .i64 x12,.int .i64 x13,.int .i64 x14,.int .i64 x15,.int .i64 x16,.int .i64 x17,.int .i64 x18,.int .i64 x19,.int .i64 x20]) (hb : Blk W g n) (hn : 21 ≤ n) : (execOp e o).run Try.prog W = .ok .skip (((((((((((((((((((((W.setCell ⟨g,0,none⟩ (.int .i64 x0)).setCell ⟨g,1,none⟩ (.int .i64 x1)).setCell ⟨g,2,none⟩ (.int .i64 x2)).setCell ⟨g,3,none⟩ (.int .i64 x3)).setCell ⟨g,4,none⟩ (.int .i64 x4)).setCell ⟨g,5,none⟩ (.int .i64 x5)).setCell ⟨g,6,none⟩ (.int .i64 x6)).setCell ⟨g,7,none⟩ (.int .i64 x7)).setCell ⟨g,8,none⟩ (.int .i64 x8)).setCell ⟨g,9,none⟩ (.int .i64 x9)).setCell ⟨g,10,none⟩ (.int .i64 x10)).setCell ⟨g,11,none⟩ (.int .i64 x11)).setCell ⟨g,12,none⟩ (.int .i64 x12)).setCell ⟨g,13,none⟩ (.int .i64 x13)).setCell ⟨g,14,none⟩ (.int .i64 x14)).setCell ⟨g,15,none⟩ (.int .i64 x15)).setCell ⟨g,16,none⟩ (.int .i64 x16)).setCell ⟨g,17,none⟩ (.int .i64 x17)).setCell ⟨g,18,none⟩ (.int .i64 x18)).setCell ⟨g,19,none⟩ (.int .i64 x19)).setCell ⟨g,20,none⟩ (.int .i64 x20)) := by
  have hu := Try.underlying39
  obtain ⟨o1, o2, o3, o4, o5, o6⟩ := o
  dsimp only at ho
  subst ho
  go_simp
  change Result.andThen ((stored Try.prog W ⟨g,0,none⟩ (.int .i64 x0) .plain).andThen fun _ w => (stored Try.prog w ⟨g,1,none⟩ (.int .i64 x1) .plain).andThen fun _ w => (stored Try.prog w ⟨g,2,none⟩ (.int .i64 x2) .plain).andThen fun _ w => (stored Try.prog w ⟨g,3,none⟩ (.int .i64 x3) .plain).andThen fun _ w => (stored Try.prog w ⟨g,4,none⟩ (.int .i64 x4) .plain).andThen fun _ w => (stored Try.prog w ⟨g,5,none⟩ (.int .i64 x5) .plain).andThen fun _ w => (stored Try.prog w ⟨g,6,none⟩ (.int .i64 x6) .plain).andThen fun _ w => (stored Try.prog w ⟨g,7,none⟩ (.int .i64 x7) .plain).andThen fun _ w => (stored Try.prog w ⟨g,8,none⟩ (.int .i64 x8) .plain).andThen fun _ w => (stored Try.prog w ⟨g,9,none⟩ (.int .i64 x9) .plain).andThen fun _ w => (stored Try.prog w ⟨g,10,none⟩ (.int .i64 x10) .plain).andThen fun _ w => (stored Try.prog w ⟨g,11,none⟩ (.int .i64 x11) .plain).andThen fun _ w => (stored Try.prog w ⟨g,12,none⟩ (.int .i64 x12) .plain).andThen fun _ w => (stored Try.prog w ⟨g,13,none⟩ (.int .i64 x13) .plain).andThen fun _ w => (stored Try.prog w ⟨g,14,none⟩ (.int .i64 x14) .plain).andThen fun _ w => (stored Try.prog w ⟨g,15,none⟩ (.int .i64 x15) .plain).andThen fun _ w => (stored Try.prog w ⟨g,16,none⟩ (.int .i64 x16) .plain).andThen fun _ w => (stored Try.prog w ⟨g,17,none⟩ (.int .i64 x17) .plain).andThen fun _ w => (stored Try.prog w ⟨g,18,none⟩ (.int .i64 x18) .plain).andThen fun _ w => (stored Try.prog w ⟨g,19,none⟩ (.int .i64 x19) .plain).andThen fun _ w => stored Try.prog w ⟨g,20,none⟩ (.int .i64 x20) .plain) (fun _ w => Result.ok Next.skip w) = _
  refine ao_ (a := ()) (w := (((((((((((((((((((((W.setCell ⟨g,0,none⟩ (.int .i64 x0)).setCell ⟨g,1,none⟩ (.int .i64 x1)).setCell ⟨g,2,none⟩ (.int .i64 x2)).setCell ⟨g,3,none⟩ (.int .i64 x3)).setCell ⟨g,4,none⟩ (.int .i64 x4)).setCell ⟨g,5,none⟩ (.int .i64 x5)).setCell ⟨g,6,none⟩ (.int .i64 x6)).setCell ⟨g,7,none⟩ (.int .i64 x7)).setCell ⟨g,8,none⟩ (.int .i64 x8)).setCell ⟨g,9,none⟩ (.int .i64 x9)).setCell ⟨g,10,none⟩ (.int .i64 x10)).setCell ⟨g,11,none⟩ (.int .i64 x11)).setCell ⟨g,12,none⟩ (.int .i64 x12)).setCell ⟨g,13,none⟩ (.int .i64 x13)).setCell ⟨g,14,none⟩ (.int .i64 x14)).setCell ⟨g,15,none⟩ (.int .i64 x15)).setCell ⟨g,16,none⟩ (.int .i64 x16)).setCell ⟨g,17,none⟩ (.int .i64 x17)).setCell ⟨g,18,none⟩ (.int .i64 x18)).setCell ⟨g,19,none⟩ (.int .i64 x19)).setCell ⟨g,20,none⟩ (.int .i64 x20))) ?_ rfl
  have h := hb
  refine (lf_ h (show 0 < n by omega)).trans ?_
  replace h := h.put (b := g) (i := 0) (v := .int .i64 x0)
  refine (lf_ h (show 1 < n by omega)).trans ?_
  replace h := h.put (b := g) (i := 1) (v := .int .i64 x1)
  refine (lf_ h (show 2 < n by omega)).trans ?_
  replace h := h.put (b := g) (i := 2) (v := .int .i64 x2)
  refine (lf_ h (show 3 < n by omega)).trans ?_
  replace h := h.put (b := g) (i := 3) (v := .int .i64 x3)
  refine (lf_ h (show 4 < n by omega)).trans ?_
  replace h := h.put (b := g) (i := 4) (v := .int .i64 x4)
  refine (lf_ h (show 5 < n by omega)).trans ?_
  replace h := h.put (b := g) (i := 5) (v := .int .i64 x5)
  refine (lf_ h (show 6 < n by omega)).trans ?_
  replace h := h.put (b := g) (i := 6) (v := .int .i64 x6)
  refine (lf_ h (show 7 < n by omega)).trans ?_
  replace h := h.put (b := g) (i := 7) (v := .int .i64 x7)
  refine (lf_ h (show 8 < n by omega)).trans ?_
  replace h := h.put (b := g) (i := 8) (v := .int .i64 x8)
  refine (lf_ h (show 9 < n by omega)).trans ?_
  replace h := h.put (b := g) (i := 9) (v := .int .i64 x9)
  refine (lf_ h (show 10 < n by omega)).trans ?_
  replace h := h.put (b := g) (i := 10) (v := .int .i64 x10)
  refine (lf_ h (show 11 < n by omega)).trans ?_
  replace h := h.put (b := g) (i := 11) (v := .int .i64 x11)
  refine (lf_ h (show 12 < n by omega)).trans ?_
  replace h := h.put (b := g) (i := 12) (v := .int .i64 x12)
  refine (lf_ h (show 13 < n by omega)).trans ?_
  replace h := h.put (b := g) (i := 13) (v := .int .i64 x13)
  refine (lf_ h (show 14 < n by omega)).trans ?_
  replace h := h.put (b := g) (i := 14) (v := .int .i64 x14)
  refine (lf_ h (show 15 < n by omega)).trans ?_
  replace h := h.put (b := g) (i := 15) (v := .int .i64 x15)
  refine (lf_ h (show 16 < n by omega)).trans ?_
  replace h := h.put (b := g) (i := 16) (v := .int .i64 x16)
  refine (lf_ h (show 17 < n by omega)).trans ?_
  replace h := h.put (b := g) (i := 17) (v := .int .i64 x17)
  refine (lf_ h (show 18 < n by omega)).trans ?_
  replace h := h.put (b := g) (i := 18) (v := .int .i64 x18)
  refine (lf_ h (show 19 < n by omega)).trans ?_
  replace h := h.put (b := g) (i := 19) (v := .int .i64 x19)
  exact lf0_ h (show 20 < n by omega)
set_option maxRecDepth 100000 in
theorem ld39_ {e : Operand → Value} {o : Oper} {p : Operand} {W : World} {g : Nat} {tt : TypeId} {v0 v1 v2 v3 v4 v5 v6 v7 v8 v9 v10 v11 v12 v13 v14 v15 v16 v17 v18 v19 v20 : Value} (ho : o.op = .load 39 p) (hp : e p = .pointer (some ⟨g,0,none⟩)) (hb : W.heap[g]? = some (.cells #[v0,v1,v2,v3,v4,v5,v6,v7,v8,v9,v10,v11,v12,v13,v14,v15,v16,v17,v18,v19,v20] tt (0,0))) : (execOp e o).run Try.prog W = .ok (.value (.agg #[v0,v1,v2,v3,v4,v5,v6,v7,v8,v9,v10,v11,v12,v13,v14,v15,v16,v17,v18,v19,v20])) W := by
  have hu := Try.underlying39
  obtain ⟨o1, o2, o3, o4, o5, o6⟩ := o
  dsimp only at ho
  subst ho
  have hc := fun i => blk_cell hb i
  clear hb
  revert hc
  go_simp
  intro hc
  change Result.andThen (Result.andThen ((ldd Try.prog W ⟨g,0,none⟩ .plain).andThen fun a0 w => (ldd Try.prog w ⟨g,1,none⟩ .plain).andThen fun a1 w => (ldd Try.prog w ⟨g,2,none⟩ .plain).andThen fun a2 w => (ldd Try.prog w ⟨g,3,none⟩ .plain).andThen fun a3 w => (ldd Try.prog w ⟨g,4,none⟩ .plain).andThen fun a4 w => (ldd Try.prog w ⟨g,5,none⟩ .plain).andThen fun a5 w => (ldd Try.prog w ⟨g,6,none⟩ .plain).andThen fun a6 w => (ldd Try.prog w ⟨g,7,none⟩ .plain).andThen fun a7 w => (ldd Try.prog w ⟨g,8,none⟩ .plain).andThen fun a8 w => (ldd Try.prog w ⟨g,9,none⟩ .plain).andThen fun a9 w => (ldd Try.prog w ⟨g,10,none⟩ .plain).andThen fun a10 w => (ldd Try.prog w ⟨g,11,none⟩ .plain).andThen fun a11 w => (ldd Try.prog w ⟨g,12,none⟩ .plain).andThen fun a12 w => (ldd Try.prog w ⟨g,13,none⟩ .plain).andThen fun a13 w => (ldd Try.prog w ⟨g,14,none⟩ .plain).andThen fun a14 w => (ldd Try.prog w ⟨g,15,none⟩ .plain).andThen fun a15 w => (ldd Try.prog w ⟨g,16,none⟩ .plain).andThen fun a16 w => (ldd Try.prog w ⟨g,17,none⟩ .plain).andThen fun a17 w => (ldd Try.prog w ⟨g,18,none⟩ .plain).andThen fun a18 w => (ldd Try.prog w ⟨g,19,none⟩ .plain).andThen fun a19 w => (ldd Try.prog w ⟨g,20,none⟩ .plain).andThen fun a20 w => Result.ok #[a0,a1,a2,a3,a4,a5,a6,a7,a8,a9,a10,a11,a12,a13,a14,a15,a16,a17,a18,a19,a20] w) (fun a w => Result.ok (Value.agg a) w)) (fun a w => Result.ok (Next.value a) w) = _
  refine ao_ (a := Value.agg #[v0,v1,v2,v3,v4,v5,v6,v7,v8,v9,v10,v11,v12,v13,v14,v15,v16,v17,v18,v19,v20]) (w := W) (ao_ (a := #[v0,v1,v2,v3,v4,v5,v6,v7,v8,v9,v10,v11,v12,v13,v14,v15,v16,v17,v18,v19,v20]) (w := W) ?_ rfl) rfl
  refine (lg_ (v := v0) (hc 0)).trans ?_
  refine (lg_ (v := v1) (hc 1)).trans ?_
  refine (lg_ (v := v2) (hc 2)).trans ?_
  refine (lg_ (v := v3) (hc 3)).trans ?_
  refine (lg_ (v := v4) (hc 4)).trans ?_
  refine (lg_ (v := v5) (hc 5)).trans ?_
  refine (lg_ (v := v6) (hc 6)).trans ?_
  refine (lg_ (v := v7) (hc 7)).trans ?_
  refine (lg_ (v := v8) (hc 8)).trans ?_
  refine (lg_ (v := v9) (hc 9)).trans ?_
  refine (lg_ (v := v10) (hc 10)).trans ?_
  refine (lg_ (v := v11) (hc 11)).trans ?_
  refine (lg_ (v := v12) (hc 12)).trans ?_
  refine (lg_ (v := v13) (hc 13)).trans ?_
  refine (lg_ (v := v14) (hc 14)).trans ?_
  refine (lg_ (v := v15) (hc 15)).trans ?_
  refine (lg_ (v := v16) (hc 16)).trans ?_
  refine (lg_ (v := v17) (hc 17)).trans ?_
  refine (lg_ (v := v18) (hc 18)).trans ?_
  refine (lg_ (v := v19) (hc 19)).trans ?_
  refine (lg_ (v := v20) (hc 20)).trans ?_
  rfl
set_option maxRecDepth 100000 in
theorem st39o3_ {e : Operand → Value} {o : Oper} {p v : Operand} {W : World} {g n : Nat} {x0 : Int} {x1 : Int} {x2 : Int} {x3 : Int} {x4 : Int} {x5 : Int} {x6 : Int} {x7 : Int} {x8 : Int} {x9 : Int} {x10 : Int} {x11 : Int} {x12 : Int} {x13 : Int} {x14 : Int} {x15 : Int} {x16 : Int} {x17 : Int} {x18 : Int} {x19 : Int} {x20 : Int} (ho : o.op = .store 39 p v) (hp : e p = .pointer (some ⟨g,3,none⟩)) (hv : e v = .agg #[.int .i64 x0,.int .i64 x1,.int .i64 x2,.int .i64 x3,.int .i64 x4,.int .i64 x5,.int .i64 x6,.int .i64 x7,.int .i64 x8,.int .i64 x9,.int .i64 x10,.int .i64 x11,.int .i64 x12,.int .i64 x13,.int .i64 x14,.int .i64 x15,.int .i64 x16,.int .i64 x17,.int .i64 x18,.int .i64 x19,.int .i64 x20]) (hb : Blk W g n) (hn : 24 ≤ n) : (execOp e o).run Try.prog W = .ok .skip (((((((((((((((((((((W.setCell ⟨g,3,none⟩ (.int .i64 x0)).setCell ⟨g,4,none⟩ (.int .i64 x1)).setCell ⟨g,5,none⟩ (.int .i64 x2)).setCell ⟨g,6,none⟩ (.int .i64 x3)).setCell ⟨g,7,none⟩ (.int .i64 x4)).setCell ⟨g,8,none⟩ (.int .i64 x5)).setCell ⟨g,9,none⟩ (.int .i64 x6)).setCell ⟨g,10,none⟩ (.int .i64 x7)).setCell ⟨g,11,none⟩ (.int .i64 x8)).setCell ⟨g,12,none⟩ (.int .i64 x9)).setCell ⟨g,13,none⟩ (.int .i64 x10)).setCell ⟨g,14,none⟩ (.int .i64 x11)).setCell ⟨g,15,none⟩ (.int .i64 x12)).setCell ⟨g,16,none⟩ (.int .i64 x13)).setCell ⟨g,17,none⟩ (.int .i64 x14)).setCell ⟨g,18,none⟩ (.int .i64 x15)).setCell ⟨g,19,none⟩ (.int .i64 x16)).setCell ⟨g,20,none⟩ (.int .i64 x17)).setCell ⟨g,21,none⟩ (.int .i64 x18)).setCell ⟨g,22,none⟩ (.int .i64 x19)).setCell ⟨g,23,none⟩ (.int .i64 x20)) := by
  have hu := Try.underlying39
  obtain ⟨o1, o2, o3, o4, o5, o6⟩ := o
  dsimp only at ho
  subst ho
  go_simp
  change Result.andThen ((stored Try.prog W ⟨g,3,none⟩ (.int .i64 x0) .plain).andThen fun _ w => (stored Try.prog w ⟨g,4,none⟩ (.int .i64 x1) .plain).andThen fun _ w => (stored Try.prog w ⟨g,5,none⟩ (.int .i64 x2) .plain).andThen fun _ w => (stored Try.prog w ⟨g,6,none⟩ (.int .i64 x3) .plain).andThen fun _ w => (stored Try.prog w ⟨g,7,none⟩ (.int .i64 x4) .plain).andThen fun _ w => (stored Try.prog w ⟨g,8,none⟩ (.int .i64 x5) .plain).andThen fun _ w => (stored Try.prog w ⟨g,9,none⟩ (.int .i64 x6) .plain).andThen fun _ w => (stored Try.prog w ⟨g,10,none⟩ (.int .i64 x7) .plain).andThen fun _ w => (stored Try.prog w ⟨g,11,none⟩ (.int .i64 x8) .plain).andThen fun _ w => (stored Try.prog w ⟨g,12,none⟩ (.int .i64 x9) .plain).andThen fun _ w => (stored Try.prog w ⟨g,13,none⟩ (.int .i64 x10) .plain).andThen fun _ w => (stored Try.prog w ⟨g,14,none⟩ (.int .i64 x11) .plain).andThen fun _ w => (stored Try.prog w ⟨g,15,none⟩ (.int .i64 x12) .plain).andThen fun _ w => (stored Try.prog w ⟨g,16,none⟩ (.int .i64 x13) .plain).andThen fun _ w => (stored Try.prog w ⟨g,17,none⟩ (.int .i64 x14) .plain).andThen fun _ w => (stored Try.prog w ⟨g,18,none⟩ (.int .i64 x15) .plain).andThen fun _ w => (stored Try.prog w ⟨g,19,none⟩ (.int .i64 x16) .plain).andThen fun _ w => (stored Try.prog w ⟨g,20,none⟩ (.int .i64 x17) .plain).andThen fun _ w => (stored Try.prog w ⟨g,21,none⟩ (.int .i64 x18) .plain).andThen fun _ w => (stored Try.prog w ⟨g,22,none⟩ (.int .i64 x19) .plain).andThen fun _ w => stored Try.prog w ⟨g,23,none⟩ (.int .i64 x20) .plain) (fun _ w => Result.ok Next.skip w) = _
  refine ao_ (a := ()) (w := (((((((((((((((((((((W.setCell ⟨g,3,none⟩ (.int .i64 x0)).setCell ⟨g,4,none⟩ (.int .i64 x1)).setCell ⟨g,5,none⟩ (.int .i64 x2)).setCell ⟨g,6,none⟩ (.int .i64 x3)).setCell ⟨g,7,none⟩ (.int .i64 x4)).setCell ⟨g,8,none⟩ (.int .i64 x5)).setCell ⟨g,9,none⟩ (.int .i64 x6)).setCell ⟨g,10,none⟩ (.int .i64 x7)).setCell ⟨g,11,none⟩ (.int .i64 x8)).setCell ⟨g,12,none⟩ (.int .i64 x9)).setCell ⟨g,13,none⟩ (.int .i64 x10)).setCell ⟨g,14,none⟩ (.int .i64 x11)).setCell ⟨g,15,none⟩ (.int .i64 x12)).setCell ⟨g,16,none⟩ (.int .i64 x13)).setCell ⟨g,17,none⟩ (.int .i64 x14)).setCell ⟨g,18,none⟩ (.int .i64 x15)).setCell ⟨g,19,none⟩ (.int .i64 x16)).setCell ⟨g,20,none⟩ (.int .i64 x17)).setCell ⟨g,21,none⟩ (.int .i64 x18)).setCell ⟨g,22,none⟩ (.int .i64 x19)).setCell ⟨g,23,none⟩ (.int .i64 x20))) ?_ rfl
  have h := hb
  refine (lf_ h (show 3 < n by omega)).trans ?_
  replace h := h.put (b := g) (i := 3) (v := .int .i64 x0)
  refine (lf_ h (show 4 < n by omega)).trans ?_
  replace h := h.put (b := g) (i := 4) (v := .int .i64 x1)
  refine (lf_ h (show 5 < n by omega)).trans ?_
  replace h := h.put (b := g) (i := 5) (v := .int .i64 x2)
  refine (lf_ h (show 6 < n by omega)).trans ?_
  replace h := h.put (b := g) (i := 6) (v := .int .i64 x3)
  refine (lf_ h (show 7 < n by omega)).trans ?_
  replace h := h.put (b := g) (i := 7) (v := .int .i64 x4)
  refine (lf_ h (show 8 < n by omega)).trans ?_
  replace h := h.put (b := g) (i := 8) (v := .int .i64 x5)
  refine (lf_ h (show 9 < n by omega)).trans ?_
  replace h := h.put (b := g) (i := 9) (v := .int .i64 x6)
  refine (lf_ h (show 10 < n by omega)).trans ?_
  replace h := h.put (b := g) (i := 10) (v := .int .i64 x7)
  refine (lf_ h (show 11 < n by omega)).trans ?_
  replace h := h.put (b := g) (i := 11) (v := .int .i64 x8)
  refine (lf_ h (show 12 < n by omega)).trans ?_
  replace h := h.put (b := g) (i := 12) (v := .int .i64 x9)
  refine (lf_ h (show 13 < n by omega)).trans ?_
  replace h := h.put (b := g) (i := 13) (v := .int .i64 x10)
  refine (lf_ h (show 14 < n by omega)).trans ?_
  replace h := h.put (b := g) (i := 14) (v := .int .i64 x11)
  refine (lf_ h (show 15 < n by omega)).trans ?_
  replace h := h.put (b := g) (i := 15) (v := .int .i64 x12)
  refine (lf_ h (show 16 < n by omega)).trans ?_
  replace h := h.put (b := g) (i := 16) (v := .int .i64 x13)
  refine (lf_ h (show 17 < n by omega)).trans ?_
  replace h := h.put (b := g) (i := 17) (v := .int .i64 x14)
  refine (lf_ h (show 18 < n by omega)).trans ?_
  replace h := h.put (b := g) (i := 18) (v := .int .i64 x15)
  refine (lf_ h (show 19 < n by omega)).trans ?_
  replace h := h.put (b := g) (i := 19) (v := .int .i64 x16)
  refine (lf_ h (show 20 < n by omega)).trans ?_
  replace h := h.put (b := g) (i := 20) (v := .int .i64 x17)
  refine (lf_ h (show 21 < n by omega)).trans ?_
  replace h := h.put (b := g) (i := 21) (v := .int .i64 x18)
  refine (lf_ h (show 22 < n by omega)).trans ?_
  replace h := h.put (b := g) (i := 22) (v := .int .i64 x19)
  exact lf0_ h (show 23 < n by omega)
set_option maxRecDepth 100000 in
theorem ld39o3_ {e : Operand → Value} {o : Oper} {p : Operand} {W : World} {g : Nat} {tt : TypeId} {v0 v1 v2 v3 v4 v5 v6 v7 v8 v9 v10 v11 v12 v13 v14 v15 v16 v17 v18 v19 v20 : Value} (ho : o.op = .load 39 p) (hp : e p = .pointer (some ⟨g,3,none⟩)) {cs : Array Value} (hb : W.heap[g]? = some (.cells cs tt (0,0))) (e0 : cs[3]? = some v0) (e1 : cs[4]? = some v1) (e2 : cs[5]? = some v2) (e3 : cs[6]? = some v3) (e4 : cs[7]? = some v4) (e5 : cs[8]? = some v5) (e6 : cs[9]? = some v6) (e7 : cs[10]? = some v7) (e8 : cs[11]? = some v8) (e9 : cs[12]? = some v9) (e10 : cs[13]? = some v10) (e11 : cs[14]? = some v11) (e12 : cs[15]? = some v12) (e13 : cs[16]? = some v13) (e14 : cs[17]? = some v14) (e15 : cs[18]? = some v15) (e16 : cs[19]? = some v16) (e17 : cs[20]? = some v17) (e18 : cs[21]? = some v18) (e19 : cs[22]? = some v19) (e20 : cs[23]? = some v20) : (execOp e o).run Try.prog W = .ok (.value (.agg #[v0,v1,v2,v3,v4,v5,v6,v7,v8,v9,v10,v11,v12,v13,v14,v15,v16,v17,v18,v19,v20])) W := by
  have hu := Try.underlying39
  obtain ⟨o1, o2, o3, o4, o5, o6⟩ := o
  dsimp only at ho
  subst ho
  have hc := fun i => blk_cell hb i
  clear hb
  revert hc
  revert e0 e1 e2 e3 e4 e5 e6 e7 e8 e9 e10 e11 e12 e13 e14 e15 e16 e17 e18 e19 e20
  go_simp
  intro e0 e1 e2 e3 e4 e5 e6 e7 e8 e9 e10 e11 e12 e13 e14 e15 e16 e17 e18 e19 e20 hc
  change Result.andThen (Result.andThen ((ldd Try.prog W ⟨g,3,none⟩ .plain).andThen fun a0 w => (ldd Try.prog w ⟨g,4,none⟩ .plain).andThen fun a1 w => (ldd Try.prog w ⟨g,5,none⟩ .plain).andThen fun a2 w => (ldd Try.prog w ⟨g,6,none⟩ .plain).andThen fun a3 w => (ldd Try.prog w ⟨g,7,none⟩ .plain).andThen fun a4 w => (ldd Try.prog w ⟨g,8,none⟩ .plain).andThen fun a5 w => (ldd Try.prog w ⟨g,9,none⟩ .plain).andThen fun a6 w => (ldd Try.prog w ⟨g,10,none⟩ .plain).andThen fun a7 w => (ldd Try.prog w ⟨g,11,none⟩ .plain).andThen fun a8 w => (ldd Try.prog w ⟨g,12,none⟩ .plain).andThen fun a9 w => (ldd Try.prog w ⟨g,13,none⟩ .plain).andThen fun a10 w => (ldd Try.prog w ⟨g,14,none⟩ .plain).andThen fun a11 w => (ldd Try.prog w ⟨g,15,none⟩ .plain).andThen fun a12 w => (ldd Try.prog w ⟨g,16,none⟩ .plain).andThen fun a13 w => (ldd Try.prog w ⟨g,17,none⟩ .plain).andThen fun a14 w => (ldd Try.prog w ⟨g,18,none⟩ .plain).andThen fun a15 w => (ldd Try.prog w ⟨g,19,none⟩ .plain).andThen fun a16 w => (ldd Try.prog w ⟨g,20,none⟩ .plain).andThen fun a17 w => (ldd Try.prog w ⟨g,21,none⟩ .plain).andThen fun a18 w => (ldd Try.prog w ⟨g,22,none⟩ .plain).andThen fun a19 w => (ldd Try.prog w ⟨g,23,none⟩ .plain).andThen fun a20 w => Result.ok #[a0,a1,a2,a3,a4,a5,a6,a7,a8,a9,a10,a11,a12,a13,a14,a15,a16,a17,a18,a19,a20] w) (fun a w => Result.ok (Value.agg a) w)) (fun a w => Result.ok (Next.value a) w) = _
  refine ao_ (a := Value.agg #[v0,v1,v2,v3,v4,v5,v6,v7,v8,v9,v10,v11,v12,v13,v14,v15,v16,v17,v18,v19,v20]) (w := W) (ao_ (a := #[v0,v1,v2,v3,v4,v5,v6,v7,v8,v9,v10,v11,v12,v13,v14,v15,v16,v17,v18,v19,v20]) (w := W) ?_ rfl) rfl
  refine (lg_ (v := v0) ((hc 3).trans e0)).trans ?_
  refine (lg_ (v := v1) ((hc 4).trans e1)).trans ?_
  refine (lg_ (v := v2) ((hc 5).trans e2)).trans ?_
  refine (lg_ (v := v3) ((hc 6).trans e3)).trans ?_
  refine (lg_ (v := v4) ((hc 7).trans e4)).trans ?_
  refine (lg_ (v := v5) ((hc 8).trans e5)).trans ?_
  refine (lg_ (v := v6) ((hc 9).trans e6)).trans ?_
  refine (lg_ (v := v7) ((hc 10).trans e7)).trans ?_
  refine (lg_ (v := v8) ((hc 11).trans e8)).trans ?_
  refine (lg_ (v := v9) ((hc 12).trans e9)).trans ?_
  refine (lg_ (v := v10) ((hc 13).trans e10)).trans ?_
  refine (lg_ (v := v11) ((hc 14).trans e11)).trans ?_
  refine (lg_ (v := v12) ((hc 15).trans e12)).trans ?_
  refine (lg_ (v := v13) ((hc 16).trans e13)).trans ?_
  refine (lg_ (v := v14) ((hc 17).trans e14)).trans ?_
  refine (lg_ (v := v15) ((hc 18).trans e15)).trans ?_
  refine (lg_ (v := v16) ((hc 19).trans e16)).trans ?_
  refine (lg_ (v := v17) ((hc 20).trans e17)).trans ?_
  refine (lg_ (v := v18) ((hc 21).trans e18)).trans ?_
  refine (lg_ (v := v19) ((hc 22).trans e19)).trans ?_
  refine (lg_ (v := v20) ((hc 23).trans e20)).trans ?_
  rfl
set_option maxRecDepth 100000 in
theorem st43_ {e : Operand → Value} {o : Oper} {p v : Operand} {W : World} {g n : Nat} {x0 : Int} {x1 : Int} {x2 : Int} {x3 : Int} {x4 : Int} {x5 : Int} {x6 : Int} {x7 : Int} {x8 : Int} {x9 : Int} {x10 : Int} {x11 : Int} {x12 : Int} {x13 : Int} {x14 : Int} {x15 : Int} {x16 : Int} {x17 : Int} {x18 : Int} {x19 : Int} {x20 : Int} {x21 : Int} {x22 : Int} {x23 : Int} {x24 : Int} {x25 : Int} {x26 : Int} {x27 : Int} {x28 : Bool} {A29 : Option Addr} {n29 c29 : Nat} (ho : o.op = .store 43 p v) (hp : e p = .pointer (some ⟨g,0,none⟩)) (hv : e v = .agg #[.int .i64 x0,.int .i64 x1,.int .i64 x2,.int .i64 x3,.int .i64 x4,.int .i64 x5,.int .i64 x6,.int .i64 x7,.int .i64 x8,.int .i64 x9,.int .i64 x10,.int .i64 x11,.int .i64 x12,.int .i64 x13,.int .i64 x14,.int .i64 x15,.int .i64 x16,.int .i64 x17,.int .i64 x18,.int .i64 x19,.int .i64 x20,.int .i64 x21,.int .i64 x22,.int .i64 x23,.int .i64 x24,.int .i64 x25,.int .i64 x26,.int .i64 x27,.bool x28,.slice A29 n29 c29]) (hb : Blk W g n) (hn : 30 ≤ n) : (execOp e o).run Try.prog W = .ok .skip ((((((((((((((((((((((((((((((W.setCell ⟨g,0,none⟩ (.int .i64 x0)).setCell ⟨g,1,none⟩ (.int .i64 x1)).setCell ⟨g,2,none⟩ (.int .i64 x2)).setCell ⟨g,3,none⟩ (.int .i64 x3)).setCell ⟨g,4,none⟩ (.int .i64 x4)).setCell ⟨g,5,none⟩ (.int .i64 x5)).setCell ⟨g,6,none⟩ (.int .i64 x6)).setCell ⟨g,7,none⟩ (.int .i64 x7)).setCell ⟨g,8,none⟩ (.int .i64 x8)).setCell ⟨g,9,none⟩ (.int .i64 x9)).setCell ⟨g,10,none⟩ (.int .i64 x10)).setCell ⟨g,11,none⟩ (.int .i64 x11)).setCell ⟨g,12,none⟩ (.int .i64 x12)).setCell ⟨g,13,none⟩ (.int .i64 x13)).setCell ⟨g,14,none⟩ (.int .i64 x14)).setCell ⟨g,15,none⟩ (.int .i64 x15)).setCell ⟨g,16,none⟩ (.int .i64 x16)).setCell ⟨g,17,none⟩ (.int .i64 x17)).setCell ⟨g,18,none⟩ (.int .i64 x18)).setCell ⟨g,19,none⟩ (.int .i64 x19)).setCell ⟨g,20,none⟩ (.int .i64 x20)).setCell ⟨g,21,none⟩ (.int .i64 x21)).setCell ⟨g,22,none⟩ (.int .i64 x22)).setCell ⟨g,23,none⟩ (.int .i64 x23)).setCell ⟨g,24,none⟩ (.int .i64 x24)).setCell ⟨g,25,none⟩ (.int .i64 x25)).setCell ⟨g,26,none⟩ (.int .i64 x26)).setCell ⟨g,27,none⟩ (.int .i64 x27)).setCell ⟨g,28,none⟩ (.bool x28)).setCell ⟨g,29,none⟩ (.slice A29 n29 c29)) := by
  have hu := Try.underlying43
  obtain ⟨o1, o2, o3, o4, o5, o6⟩ := o
  dsimp only at ho
  subst ho
  go_simp
  change Result.andThen ((stored Try.prog W ⟨g,0,none⟩ (.int .i64 x0) .plain).andThen fun _ w => (stored Try.prog w ⟨g,1,none⟩ (.int .i64 x1) .plain).andThen fun _ w => (stored Try.prog w ⟨g,2,none⟩ (.int .i64 x2) .plain).andThen fun _ w => (stored Try.prog w ⟨g,3,none⟩ (.int .i64 x3) .plain).andThen fun _ w => (stored Try.prog w ⟨g,4,none⟩ (.int .i64 x4) .plain).andThen fun _ w => (stored Try.prog w ⟨g,5,none⟩ (.int .i64 x5) .plain).andThen fun _ w => (stored Try.prog w ⟨g,6,none⟩ (.int .i64 x6) .plain).andThen fun _ w => (stored Try.prog w ⟨g,7,none⟩ (.int .i64 x7) .plain).andThen fun _ w => (stored Try.prog w ⟨g,8,none⟩ (.int .i64 x8) .plain).andThen fun _ w => (stored Try.prog w ⟨g,9,none⟩ (.int .i64 x9) .plain).andThen fun _ w => (stored Try.prog w ⟨g,10,none⟩ (.int .i64 x10) .plain).andThen fun _ w => (stored Try.prog w ⟨g,11,none⟩ (.int .i64 x11) .plain).andThen fun _ w => (stored Try.prog w ⟨g,12,none⟩ (.int .i64 x12) .plain).andThen fun _ w => (stored Try.prog w ⟨g,13,none⟩ (.int .i64 x13) .plain).andThen fun _ w => (stored Try.prog w ⟨g,14,none⟩ (.int .i64 x14) .plain).andThen fun _ w => (stored Try.prog w ⟨g,15,none⟩ (.int .i64 x15) .plain).andThen fun _ w => (stored Try.prog w ⟨g,16,none⟩ (.int .i64 x16) .plain).andThen fun _ w => (stored Try.prog w ⟨g,17,none⟩ (.int .i64 x17) .plain).andThen fun _ w => (stored Try.prog w ⟨g,18,none⟩ (.int .i64 x18) .plain).andThen fun _ w => (stored Try.prog w ⟨g,19,none⟩ (.int .i64 x19) .plain).andThen fun _ w => (stored Try.prog w ⟨g,20,none⟩ (.int .i64 x20) .plain).andThen fun _ w => (stored Try.prog w ⟨g,21,none⟩ (.int .i64 x21) .plain).andThen fun _ w => (stored Try.prog w ⟨g,22,none⟩ (.int .i64 x22) .plain).andThen fun _ w => (stored Try.prog w ⟨g,23,none⟩ (.int .i64 x23) .plain).andThen fun _ w => (stored Try.prog w ⟨g,24,none⟩ (.int .i64 x24) .plain).andThen fun _ w => (stored Try.prog w ⟨g,25,none⟩ (.int .i64 x25) .plain).andThen fun _ w => (stored Try.prog w ⟨g,26,none⟩ (.int .i64 x26) .plain).andThen fun _ w => (stored Try.prog w ⟨g,27,none⟩ (.int .i64 x27) .plain).andThen fun _ w => (stored Try.prog w ⟨g,28,none⟩ (.bool x28) .plain).andThen fun _ w => stored Try.prog w ⟨g,29,none⟩ (.slice A29 n29 c29) .plain) (fun _ w => Result.ok Next.skip w) = _
  refine ao_ (a := ()) (w := ((((((((((((((((((((((((((((((W.setCell ⟨g,0,none⟩ (.int .i64 x0)).setCell ⟨g,1,none⟩ (.int .i64 x1)).setCell ⟨g,2,none⟩ (.int .i64 x2)).setCell ⟨g,3,none⟩ (.int .i64 x3)).setCell ⟨g,4,none⟩ (.int .i64 x4)).setCell ⟨g,5,none⟩ (.int .i64 x5)).setCell ⟨g,6,none⟩ (.int .i64 x6)).setCell ⟨g,7,none⟩ (.int .i64 x7)).setCell ⟨g,8,none⟩ (.int .i64 x8)).setCell ⟨g,9,none⟩ (.int .i64 x9)).setCell ⟨g,10,none⟩ (.int .i64 x10)).setCell ⟨g,11,none⟩ (.int .i64 x11)).setCell ⟨g,12,none⟩ (.int .i64 x12)).setCell ⟨g,13,none⟩ (.int .i64 x13)).setCell ⟨g,14,none⟩ (.int .i64 x14)).setCell ⟨g,15,none⟩ (.int .i64 x15)).setCell ⟨g,16,none⟩ (.int .i64 x16)).setCell ⟨g,17,none⟩ (.int .i64 x17)).setCell ⟨g,18,none⟩ (.int .i64 x18)).setCell ⟨g,19,none⟩ (.int .i64 x19)).setCell ⟨g,20,none⟩ (.int .i64 x20)).setCell ⟨g,21,none⟩ (.int .i64 x21)).setCell ⟨g,22,none⟩ (.int .i64 x22)).setCell ⟨g,23,none⟩ (.int .i64 x23)).setCell ⟨g,24,none⟩ (.int .i64 x24)).setCell ⟨g,25,none⟩ (.int .i64 x25)).setCell ⟨g,26,none⟩ (.int .i64 x26)).setCell ⟨g,27,none⟩ (.int .i64 x27)).setCell ⟨g,28,none⟩ (.bool x28)).setCell ⟨g,29,none⟩ (.slice A29 n29 c29))) ?_ rfl
  have h := hb
  refine (lf_ h (show 0 < n by omega)).trans ?_
  replace h := h.put (b := g) (i := 0) (v := .int .i64 x0)
  refine (lf_ h (show 1 < n by omega)).trans ?_
  replace h := h.put (b := g) (i := 1) (v := .int .i64 x1)
  refine (lf_ h (show 2 < n by omega)).trans ?_
  replace h := h.put (b := g) (i := 2) (v := .int .i64 x2)
  refine (lf_ h (show 3 < n by omega)).trans ?_
  replace h := h.put (b := g) (i := 3) (v := .int .i64 x3)
  refine (lf_ h (show 4 < n by omega)).trans ?_
  replace h := h.put (b := g) (i := 4) (v := .int .i64 x4)
  refine (lf_ h (show 5 < n by omega)).trans ?_
  replace h := h.put (b := g) (i := 5) (v := .int .i64 x5)
  refine (lf_ h (show 6 < n by omega)).trans ?_
  replace h := h.put (b := g) (i := 6) (v := .int .i64 x6)
  refine (lf_ h (show 7 < n by omega)).trans ?_
  replace h := h.put (b := g) (i := 7) (v := .int .i64 x7)
  refine (lf_ h (show 8 < n by omega)).trans ?_
  replace h := h.put (b := g) (i := 8) (v := .int .i64 x8)
  refine (lf_ h (show 9 < n by omega)).trans ?_
  replace h := h.put (b := g) (i := 9) (v := .int .i64 x9)
  refine (lf_ h (show 10 < n by omega)).trans ?_
  replace h := h.put (b := g) (i := 10) (v := .int .i64 x10)
  refine (lf_ h (show 11 < n by omega)).trans ?_
  replace h := h.put (b := g) (i := 11) (v := .int .i64 x11)
  refine (lf_ h (show 12 < n by omega)).trans ?_
  replace h := h.put (b := g) (i := 12) (v := .int .i64 x12)
  refine (lf_ h (show 13 < n by omega)).trans ?_
  replace h := h.put (b := g) (i := 13) (v := .int .i64 x13)
  refine (lf_ h (show 14 < n by omega)).trans ?_
  replace h := h.put (b := g) (i := 14) (v := .int .i64 x14)
  refine (lf_ h (show 15 < n by omega)).trans ?_
  replace h := h.put (b := g) (i := 15) (v := .int .i64 x15)
  refine (lf_ h (show 16 < n by omega)).trans ?_
  replace h := h.put (b := g) (i := 16) (v := .int .i64 x16)
  refine (lf_ h (show 17 < n by omega)).trans ?_
  replace h := h.put (b := g) (i := 17) (v := .int .i64 x17)
  refine (lf_ h (show 18 < n by omega)).trans ?_
  replace h := h.put (b := g) (i := 18) (v := .int .i64 x18)
  refine (lf_ h (show 19 < n by omega)).trans ?_
  replace h := h.put (b := g) (i := 19) (v := .int .i64 x19)
  refine (lf_ h (show 20 < n by omega)).trans ?_
  replace h := h.put (b := g) (i := 20) (v := .int .i64 x20)
  refine (lf_ h (show 21 < n by omega)).trans ?_
  replace h := h.put (b := g) (i := 21) (v := .int .i64 x21)
  refine (lf_ h (show 22 < n by omega)).trans ?_
  replace h := h.put (b := g) (i := 22) (v := .int .i64 x22)
  refine (lf_ h (show 23 < n by omega)).trans ?_
  replace h := h.put (b := g) (i := 23) (v := .int .i64 x23)
  refine (lf_ h (show 24 < n by omega)).trans ?_
  replace h := h.put (b := g) (i := 24) (v := .int .i64 x24)
  refine (lf_ h (show 25 < n by omega)).trans ?_
  replace h := h.put (b := g) (i := 25) (v := .int .i64 x25)
  refine (lf_ h (show 26 < n by omega)).trans ?_
  replace h := h.put (b := g) (i := 26) (v := .int .i64 x26)
  refine (lf_ h (show 27 < n by omega)).trans ?_
  replace h := h.put (b := g) (i := 27) (v := .int .i64 x27)
  refine (lf_ h (show 28 < n by omega)).trans ?_
  replace h := h.put (b := g) (i := 28) (v := .bool x28)
  exact lf0_ h (show 29 < n by omega)
set_option maxRecDepth 100000 in
theorem ld43_ {e : Operand → Value} {o : Oper} {p : Operand} {W : World} {g : Nat} {tt : TypeId} {v0 v1 v2 v3 v4 v5 v6 v7 v8 v9 v10 v11 v12 v13 v14 v15 v16 v17 v18 v19 v20 v21 v22 v23 v24 v25 v26 v27 v28 v29 : Value} (ho : o.op = .load 43 p) (hp : e p = .pointer (some ⟨g,0,none⟩)) (hb : W.heap[g]? = some (.cells #[v0,v1,v2,v3,v4,v5,v6,v7,v8,v9,v10,v11,v12,v13,v14,v15,v16,v17,v18,v19,v20,v21,v22,v23,v24,v25,v26,v27,v28,v29] tt (0,0))) : (execOp e o).run Try.prog W = .ok (.value (.agg #[v0,v1,v2,v3,v4,v5,v6,v7,v8,v9,v10,v11,v12,v13,v14,v15,v16,v17,v18,v19,v20,v21,v22,v23,v24,v25,v26,v27,v28,v29])) W := by
  have hu := Try.underlying43
  obtain ⟨o1, o2, o3, o4, o5, o6⟩ := o
  dsimp only at ho
  subst ho
  have hc := fun i => blk_cell hb i
  clear hb
  revert hc
  go_simp
  intro hc
  change Result.andThen (Result.andThen ((ldd Try.prog W ⟨g,0,none⟩ .plain).andThen fun a0 w => (ldd Try.prog w ⟨g,1,none⟩ .plain).andThen fun a1 w => (ldd Try.prog w ⟨g,2,none⟩ .plain).andThen fun a2 w => (ldd Try.prog w ⟨g,3,none⟩ .plain).andThen fun a3 w => (ldd Try.prog w ⟨g,4,none⟩ .plain).andThen fun a4 w => (ldd Try.prog w ⟨g,5,none⟩ .plain).andThen fun a5 w => (ldd Try.prog w ⟨g,6,none⟩ .plain).andThen fun a6 w => (ldd Try.prog w ⟨g,7,none⟩ .plain).andThen fun a7 w => (ldd Try.prog w ⟨g,8,none⟩ .plain).andThen fun a8 w => (ldd Try.prog w ⟨g,9,none⟩ .plain).andThen fun a9 w => (ldd Try.prog w ⟨g,10,none⟩ .plain).andThen fun a10 w => (ldd Try.prog w ⟨g,11,none⟩ .plain).andThen fun a11 w => (ldd Try.prog w ⟨g,12,none⟩ .plain).andThen fun a12 w => (ldd Try.prog w ⟨g,13,none⟩ .plain).andThen fun a13 w => (ldd Try.prog w ⟨g,14,none⟩ .plain).andThen fun a14 w => (ldd Try.prog w ⟨g,15,none⟩ .plain).andThen fun a15 w => (ldd Try.prog w ⟨g,16,none⟩ .plain).andThen fun a16 w => (ldd Try.prog w ⟨g,17,none⟩ .plain).andThen fun a17 w => (ldd Try.prog w ⟨g,18,none⟩ .plain).andThen fun a18 w => (ldd Try.prog w ⟨g,19,none⟩ .plain).andThen fun a19 w => (ldd Try.prog w ⟨g,20,none⟩ .plain).andThen fun a20 w => (ldd Try.prog w ⟨g,21,none⟩ .plain).andThen fun a21 w => (ldd Try.prog w ⟨g,22,none⟩ .plain).andThen fun a22 w => (ldd Try.prog w ⟨g,23,none⟩ .plain).andThen fun a23 w => (ldd Try.prog w ⟨g,24,none⟩ .plain).andThen fun a24 w => (ldd Try.prog w ⟨g,25,none⟩ .plain).andThen fun a25 w => (ldd Try.prog w ⟨g,26,none⟩ .plain).andThen fun a26 w => (ldd Try.prog w ⟨g,27,none⟩ .plain).andThen fun a27 w => (ldd Try.prog w ⟨g,28,none⟩ .plain).andThen fun a28 w => (ldd Try.prog w ⟨g,29,none⟩ .plain).andThen fun a29 w => Result.ok #[a0,a1,a2,a3,a4,a5,a6,a7,a8,a9,a10,a11,a12,a13,a14,a15,a16,a17,a18,a19,a20,a21,a22,a23,a24,a25,a26,a27,a28,a29] w) (fun a w => Result.ok (Value.agg a) w)) (fun a w => Result.ok (Next.value a) w) = _
  refine ao_ (a := Value.agg #[v0,v1,v2,v3,v4,v5,v6,v7,v8,v9,v10,v11,v12,v13,v14,v15,v16,v17,v18,v19,v20,v21,v22,v23,v24,v25,v26,v27,v28,v29]) (w := W) (ao_ (a := #[v0,v1,v2,v3,v4,v5,v6,v7,v8,v9,v10,v11,v12,v13,v14,v15,v16,v17,v18,v19,v20,v21,v22,v23,v24,v25,v26,v27,v28,v29]) (w := W) ?_ rfl) rfl
  refine (lg_ (v := v0) (hc 0)).trans ?_
  refine (lg_ (v := v1) (hc 1)).trans ?_
  refine (lg_ (v := v2) (hc 2)).trans ?_
  refine (lg_ (v := v3) (hc 3)).trans ?_
  refine (lg_ (v := v4) (hc 4)).trans ?_
  refine (lg_ (v := v5) (hc 5)).trans ?_
  refine (lg_ (v := v6) (hc 6)).trans ?_
  refine (lg_ (v := v7) (hc 7)).trans ?_
  refine (lg_ (v := v8) (hc 8)).trans ?_
  refine (lg_ (v := v9) (hc 9)).trans ?_
  refine (lg_ (v := v10) (hc 10)).trans ?_
  refine (lg_ (v := v11) (hc 11)).trans ?_
  refine (lg_ (v := v12) (hc 12)).trans ?_
  refine (lg_ (v := v13) (hc 13)).trans ?_
  refine (lg_ (v := v14) (hc 14)).trans ?_
  refine (lg_ (v := v15) (hc 15)).trans ?_
  refine (lg_ (v := v16) (hc 16)).trans ?_
  refine (lg_ (v := v17) (hc 17)).trans ?_
  refine (lg_ (v := v18) (hc 18)).trans ?_
  refine (lg_ (v := v19) (hc 19)).trans ?_
  refine (lg_ (v := v20) (hc 20)).trans ?_
  refine (lg_ (v := v21) (hc 21)).trans ?_
  refine (lg_ (v := v22) (hc 22)).trans ?_
  refine (lg_ (v := v23) (hc 23)).trans ?_
  refine (lg_ (v := v24) (hc 24)).trans ?_
  refine (lg_ (v := v25) (hc 25)).trans ?_
  refine (lg_ (v := v26) (hc 26)).trans ?_
  refine (lg_ (v := v27) (hc 27)).trans ?_
  refine (lg_ (v := v28) (hc 28)).trans ?_
  refine (lg_ (v := v29) (hc 29)).trans ?_
  rfl
set_option maxRecDepth 100000 in
theorem st65_ {e : Operand → Value} {o : Oper} {p v : Operand} {W : World} {g n : Nat} {x0 : Int} {x1 : Int} {x2 : Int} {x3 : Int} {x4 : Int} {x5 : Int} {x6 : Int} {x7 : Int} {x8 : Int} {x9 : Int} {x10 : Int} {x11 : Int} {x12 : Int} {x13 : Int} {x14 : Int} {x15 : Int} {x16 : Int} (ho : o.op = .store 65 p v) (hp : e p = .pointer (some ⟨g,0,none⟩)) (hv : e v = .agg #[.int .i64 x0,.int .i64 x1,.int .i64 x2,.int .i64 x3,.int .i64 x4,.int .i64 x5,.int .i64 x6,.int .i64 x7,.int .i64 x8,.int .i64 x9,.int .i64 x10,.int .i64 x11,.int .i64 x12,.int .i64 x13,.int .i64 x14,.int .i64 x15,.int .i64 x16]) (hb : Blk W g n) (hn : 17 ≤ n) : (execOp e o).run Try.prog W = .ok .skip (((((((((((((((((W.setCell ⟨g,0,none⟩ (.int .i64 x0)).setCell ⟨g,1,none⟩ (.int .i64 x1)).setCell ⟨g,2,none⟩ (.int .i64 x2)).setCell ⟨g,3,none⟩ (.int .i64 x3)).setCell ⟨g,4,none⟩ (.int .i64 x4)).setCell ⟨g,5,none⟩ (.int .i64 x5)).setCell ⟨g,6,none⟩ (.int .i64 x6)).setCell ⟨g,7,none⟩ (.int .i64 x7)).setCell ⟨g,8,none⟩ (.int .i64 x8)).setCell ⟨g,9,none⟩ (.int .i64 x9)).setCell ⟨g,10,none⟩ (.int .i64 x10)).setCell ⟨g,11,none⟩ (.int .i64 x11)).setCell ⟨g,12,none⟩ (.int .i64 x12)).setCell ⟨g,13,none⟩ (.int .i64 x13)).setCell ⟨g,14,none⟩ (.int .i64 x14)).setCell ⟨g,15,none⟩ (.int .i64 x15)).setCell ⟨g,16,none⟩ (.int .i64 x16)) := by
  have hu := Try.underlying65
  obtain ⟨o1, o2, o3, o4, o5, o6⟩ := o
  dsimp only at ho
  subst ho
  go_simp
  change Result.andThen ((stored Try.prog W ⟨g,0,none⟩ (.int .i64 x0) .plain).andThen fun _ w => (stored Try.prog w ⟨g,1,none⟩ (.int .i64 x1) .plain).andThen fun _ w => (stored Try.prog w ⟨g,2,none⟩ (.int .i64 x2) .plain).andThen fun _ w => (stored Try.prog w ⟨g,3,none⟩ (.int .i64 x3) .plain).andThen fun _ w => (stored Try.prog w ⟨g,4,none⟩ (.int .i64 x4) .plain).andThen fun _ w => (stored Try.prog w ⟨g,5,none⟩ (.int .i64 x5) .plain).andThen fun _ w => (stored Try.prog w ⟨g,6,none⟩ (.int .i64 x6) .plain).andThen fun _ w => (stored Try.prog w ⟨g,7,none⟩ (.int .i64 x7) .plain).andThen fun _ w => (stored Try.prog w ⟨g,8,none⟩ (.int .i64 x8) .plain).andThen fun _ w => (stored Try.prog w ⟨g,9,none⟩ (.int .i64 x9) .plain).andThen fun _ w => (stored Try.prog w ⟨g,10,none⟩ (.int .i64 x10) .plain).andThen fun _ w => (stored Try.prog w ⟨g,11,none⟩ (.int .i64 x11) .plain).andThen fun _ w => (stored Try.prog w ⟨g,12,none⟩ (.int .i64 x12) .plain).andThen fun _ w => (stored Try.prog w ⟨g,13,none⟩ (.int .i64 x13) .plain).andThen fun _ w => (stored Try.prog w ⟨g,14,none⟩ (.int .i64 x14) .plain).andThen fun _ w => (stored Try.prog w ⟨g,15,none⟩ (.int .i64 x15) .plain).andThen fun _ w => stored Try.prog w ⟨g,16,none⟩ (.int .i64 x16) .plain) (fun _ w => Result.ok Next.skip w) = _
  refine ao_ (a := ()) (w := (((((((((((((((((W.setCell ⟨g,0,none⟩ (.int .i64 x0)).setCell ⟨g,1,none⟩ (.int .i64 x1)).setCell ⟨g,2,none⟩ (.int .i64 x2)).setCell ⟨g,3,none⟩ (.int .i64 x3)).setCell ⟨g,4,none⟩ (.int .i64 x4)).setCell ⟨g,5,none⟩ (.int .i64 x5)).setCell ⟨g,6,none⟩ (.int .i64 x6)).setCell ⟨g,7,none⟩ (.int .i64 x7)).setCell ⟨g,8,none⟩ (.int .i64 x8)).setCell ⟨g,9,none⟩ (.int .i64 x9)).setCell ⟨g,10,none⟩ (.int .i64 x10)).setCell ⟨g,11,none⟩ (.int .i64 x11)).setCell ⟨g,12,none⟩ (.int .i64 x12)).setCell ⟨g,13,none⟩ (.int .i64 x13)).setCell ⟨g,14,none⟩ (.int .i64 x14)).setCell ⟨g,15,none⟩ (.int .i64 x15)).setCell ⟨g,16,none⟩ (.int .i64 x16))) ?_ rfl
  have h := hb
  refine (lf_ h (show 0 < n by omega)).trans ?_
  replace h := h.put (b := g) (i := 0) (v := .int .i64 x0)
  refine (lf_ h (show 1 < n by omega)).trans ?_
  replace h := h.put (b := g) (i := 1) (v := .int .i64 x1)
  refine (lf_ h (show 2 < n by omega)).trans ?_
  replace h := h.put (b := g) (i := 2) (v := .int .i64 x2)
  refine (lf_ h (show 3 < n by omega)).trans ?_
  replace h := h.put (b := g) (i := 3) (v := .int .i64 x3)
  refine (lf_ h (show 4 < n by omega)).trans ?_
  replace h := h.put (b := g) (i := 4) (v := .int .i64 x4)
  refine (lf_ h (show 5 < n by omega)).trans ?_
  replace h := h.put (b := g) (i := 5) (v := .int .i64 x5)
  refine (lf_ h (show 6 < n by omega)).trans ?_
  replace h := h.put (b := g) (i := 6) (v := .int .i64 x6)
  refine (lf_ h (show 7 < n by omega)).trans ?_
  replace h := h.put (b := g) (i := 7) (v := .int .i64 x7)
  refine (lf_ h (show 8 < n by omega)).trans ?_
  replace h := h.put (b := g) (i := 8) (v := .int .i64 x8)
  refine (lf_ h (show 9 < n by omega)).trans ?_
  replace h := h.put (b := g) (i := 9) (v := .int .i64 x9)
  refine (lf_ h (show 10 < n by omega)).trans ?_
  replace h := h.put (b := g) (i := 10) (v := .int .i64 x10)
  refine (lf_ h (show 11 < n by omega)).trans ?_
  replace h := h.put (b := g) (i := 11) (v := .int .i64 x11)
  refine (lf_ h (show 12 < n by omega)).trans ?_
  replace h := h.put (b := g) (i := 12) (v := .int .i64 x12)
  refine (lf_ h (show 13 < n by omega)).trans ?_
  replace h := h.put (b := g) (i := 13) (v := .int .i64 x13)
  refine (lf_ h (show 14 < n by omega)).trans ?_
  replace h := h.put (b := g) (i := 14) (v := .int .i64 x14)
  refine (lf_ h (show 15 < n by omega)).trans ?_
  replace h := h.put (b := g) (i := 15) (v := .int .i64 x15)
  exact lf0_ h (show 16 < n by omega)
set_option maxRecDepth 100000 in
theorem ld65_ {e : Operand → Value} {o : Oper} {p : Operand} {W : World} {g : Nat} {tt : TypeId} {v0 v1 v2 v3 v4 v5 v6 v7 v8 v9 v10 v11 v12 v13 v14 v15 v16 : Value} (ho : o.op = .load 65 p) (hp : e p = .pointer (some ⟨g,0,none⟩)) (hb : W.heap[g]? = some (.cells #[v0,v1,v2,v3,v4,v5,v6,v7,v8,v9,v10,v11,v12,v13,v14,v15,v16] tt (0,0))) : (execOp e o).run Try.prog W = .ok (.value (.agg #[v0,v1,v2,v3,v4,v5,v6,v7,v8,v9,v10,v11,v12,v13,v14,v15,v16])) W := by
  have hu := Try.underlying65
  obtain ⟨o1, o2, o3, o4, o5, o6⟩ := o
  dsimp only at ho
  subst ho
  have hc := fun i => blk_cell hb i
  clear hb
  revert hc
  go_simp
  intro hc
  change Result.andThen (Result.andThen ((ldd Try.prog W ⟨g,0,none⟩ .plain).andThen fun a0 w => (ldd Try.prog w ⟨g,1,none⟩ .plain).andThen fun a1 w => (ldd Try.prog w ⟨g,2,none⟩ .plain).andThen fun a2 w => (ldd Try.prog w ⟨g,3,none⟩ .plain).andThen fun a3 w => (ldd Try.prog w ⟨g,4,none⟩ .plain).andThen fun a4 w => (ldd Try.prog w ⟨g,5,none⟩ .plain).andThen fun a5 w => (ldd Try.prog w ⟨g,6,none⟩ .plain).andThen fun a6 w => (ldd Try.prog w ⟨g,7,none⟩ .plain).andThen fun a7 w => (ldd Try.prog w ⟨g,8,none⟩ .plain).andThen fun a8 w => (ldd Try.prog w ⟨g,9,none⟩ .plain).andThen fun a9 w => (ldd Try.prog w ⟨g,10,none⟩ .plain).andThen fun a10 w => (ldd Try.prog w ⟨g,11,none⟩ .plain).andThen fun a11 w => (ldd Try.prog w ⟨g,12,none⟩ .plain).andThen fun a12 w => (ldd Try.prog w ⟨g,13,none⟩ .plain).andThen fun a13 w => (ldd Try.prog w ⟨g,14,none⟩ .plain).andThen fun a14 w => (ldd Try.prog w ⟨g,15,none⟩ .plain).andThen fun a15 w => (ldd Try.prog w ⟨g,16,none⟩ .plain).andThen fun a16 w => Result.ok #[a0,a1,a2,a3,a4,a5,a6,a7,a8,a9,a10,a11,a12,a13,a14,a15,a16] w) (fun a w => Result.ok (Value.agg a) w)) (fun a w => Result.ok (Next.value a) w) = _
  refine ao_ (a := Value.agg #[v0,v1,v2,v3,v4,v5,v6,v7,v8,v9,v10,v11,v12,v13,v14,v15,v16]) (w := W) (ao_ (a := #[v0,v1,v2,v3,v4,v5,v6,v7,v8,v9,v10,v11,v12,v13,v14,v15,v16]) (w := W) ?_ rfl) rfl
  refine (lg_ (v := v0) (hc 0)).trans ?_
  refine (lg_ (v := v1) (hc 1)).trans ?_
  refine (lg_ (v := v2) (hc 2)).trans ?_
  refine (lg_ (v := v3) (hc 3)).trans ?_
  refine (lg_ (v := v4) (hc 4)).trans ?_
  refine (lg_ (v := v5) (hc 5)).trans ?_
  refine (lg_ (v := v6) (hc 6)).trans ?_
  refine (lg_ (v := v7) (hc 7)).trans ?_
  refine (lg_ (v := v8) (hc 8)).trans ?_
  refine (lg_ (v := v9) (hc 9)).trans ?_
  refine (lg_ (v := v10) (hc 10)).trans ?_
  refine (lg_ (v := v11) (hc 11)).trans ?_
  refine (lg_ (v := v12) (hc 12)).trans ?_
  refine (lg_ (v := v13) (hc 13)).trans ?_
  refine (lg_ (v := v14) (hc 14)).trans ?_
  refine (lg_ (v := v15) (hc 15)).trans ?_
  refine (lg_ (v := v16) (hc 16)).trans ?_
  rfl
set_option maxRecDepth 100000 in
theorem st69_ {e : Operand → Value} {o : Oper} {p v : Operand} {W : World} {g n : Nat} {x0 : Int} {x1 : Int} {x2 : Int} {x3 : Int} {x4 : Int} {x5 : Int} {x6 : Int} {x7 : Int} {x8 : Int} {x9 : Int} {x10 : Int} {x11 : Int} {x12 : Int} {x13 : Int} {x14 : Int} {x15 : Int} {x16 : Int} (ho : o.op = .store 69 p v) (hp : e p = .pointer (some ⟨g,0,none⟩)) (hv : e v = .agg #[.int .i64 x0,.int .i64 x1,.int .i64 x2,.int .i64 x3,.int .i64 x4,.int .i64 x5,.int .i64 x6,.int .i64 x7,.int .i64 x8,.int .i64 x9,.int .i64 x10,.int .i64 x11,.int .i64 x12,.int .i64 x13,.int .i64 x14,.int .i64 x15,.int .i64 x16]) (hb : Blk W g n) (hn : 17 ≤ n) : (execOp e o).run Try.prog W = .ok .skip (((((((((((((((((W.setCell ⟨g,0,none⟩ (.int .i64 x0)).setCell ⟨g,1,none⟩ (.int .i64 x1)).setCell ⟨g,2,none⟩ (.int .i64 x2)).setCell ⟨g,3,none⟩ (.int .i64 x3)).setCell ⟨g,4,none⟩ (.int .i64 x4)).setCell ⟨g,5,none⟩ (.int .i64 x5)).setCell ⟨g,6,none⟩ (.int .i64 x6)).setCell ⟨g,7,none⟩ (.int .i64 x7)).setCell ⟨g,8,none⟩ (.int .i64 x8)).setCell ⟨g,9,none⟩ (.int .i64 x9)).setCell ⟨g,10,none⟩ (.int .i64 x10)).setCell ⟨g,11,none⟩ (.int .i64 x11)).setCell ⟨g,12,none⟩ (.int .i64 x12)).setCell ⟨g,13,none⟩ (.int .i64 x13)).setCell ⟨g,14,none⟩ (.int .i64 x14)).setCell ⟨g,15,none⟩ (.int .i64 x15)).setCell ⟨g,16,none⟩ (.int .i64 x16)) := by
  have hu := Try.underlying69
  obtain ⟨o1, o2, o3, o4, o5, o6⟩ := o
  dsimp only at ho
  subst ho
  go_simp
  change Result.andThen ((stored Try.prog W ⟨g,0,none⟩ (.int .i64 x0) .plain).andThen fun _ w => (stored Try.prog w ⟨g,1,none⟩ (.int .i64 x1) .plain).andThen fun _ w => (stored Try.prog w ⟨g,2,none⟩ (.int .i64 x2) .plain).andThen fun _ w => (stored Try.prog w ⟨g,3,none⟩ (.int .i64 x3) .plain).andThen fun _ w => (stored Try.prog w ⟨g,4,none⟩ (.int .i64 x4) .plain).andThen fun _ w => (stored Try.prog w ⟨g,5,none⟩ (.int .i64 x5) .plain).andThen fun _ w => (stored Try.prog w ⟨g,6,none⟩ (.int .i64 x6) .plain).andThen fun _ w => (stored Try.prog w ⟨g,7,none⟩ (.int .i64 x7) .plain).andThen fun _ w => (stored Try.prog w ⟨g,8,none⟩ (.int .i64 x8) .plain).andThen fun _ w => (stored Try.prog w ⟨g,9,none⟩ (.int .i64 x9) .plain).andThen fun _ w => (stored Try.prog w ⟨g,10,none⟩ (.int .i64 x10) .plain).andThen fun _ w => (stored Try.prog w ⟨g,11,none⟩ (.int .i64 x11) .plain).andThen fun _ w => (stored Try.prog w ⟨g,12,none⟩ (.int .i64 x12) .plain).andThen fun _ w => (stored Try.prog w ⟨g,13,none⟩ (.int .i64 x13) .plain).andThen fun _ w => (stored Try.prog w ⟨g,14,none⟩ (.int .i64 x14) .plain).andThen fun _ w => (stored Try.prog w ⟨g,15,none⟩ (.int .i64 x15) .plain).andThen fun _ w => stored Try.prog w ⟨g,16,none⟩ (.int .i64 x16) .plain) (fun _ w => Result.ok Next.skip w) = _
  refine ao_ (a := ()) (w := (((((((((((((((((W.setCell ⟨g,0,none⟩ (.int .i64 x0)).setCell ⟨g,1,none⟩ (.int .i64 x1)).setCell ⟨g,2,none⟩ (.int .i64 x2)).setCell ⟨g,3,none⟩ (.int .i64 x3)).setCell ⟨g,4,none⟩ (.int .i64 x4)).setCell ⟨g,5,none⟩ (.int .i64 x5)).setCell ⟨g,6,none⟩ (.int .i64 x6)).setCell ⟨g,7,none⟩ (.int .i64 x7)).setCell ⟨g,8,none⟩ (.int .i64 x8)).setCell ⟨g,9,none⟩ (.int .i64 x9)).setCell ⟨g,10,none⟩ (.int .i64 x10)).setCell ⟨g,11,none⟩ (.int .i64 x11)).setCell ⟨g,12,none⟩ (.int .i64 x12)).setCell ⟨g,13,none⟩ (.int .i64 x13)).setCell ⟨g,14,none⟩ (.int .i64 x14)).setCell ⟨g,15,none⟩ (.int .i64 x15)).setCell ⟨g,16,none⟩ (.int .i64 x16))) ?_ rfl
  have h := hb
  refine (lf_ h (show 0 < n by omega)).trans ?_
  replace h := h.put (b := g) (i := 0) (v := .int .i64 x0)
  refine (lf_ h (show 1 < n by omega)).trans ?_
  replace h := h.put (b := g) (i := 1) (v := .int .i64 x1)
  refine (lf_ h (show 2 < n by omega)).trans ?_
  replace h := h.put (b := g) (i := 2) (v := .int .i64 x2)
  refine (lf_ h (show 3 < n by omega)).trans ?_
  replace h := h.put (b := g) (i := 3) (v := .int .i64 x3)
  refine (lf_ h (show 4 < n by omega)).trans ?_
  replace h := h.put (b := g) (i := 4) (v := .int .i64 x4)
  refine (lf_ h (show 5 < n by omega)).trans ?_
  replace h := h.put (b := g) (i := 5) (v := .int .i64 x5)
  refine (lf_ h (show 6 < n by omega)).trans ?_
  replace h := h.put (b := g) (i := 6) (v := .int .i64 x6)
  refine (lf_ h (show 7 < n by omega)).trans ?_
  replace h := h.put (b := g) (i := 7) (v := .int .i64 x7)
  refine (lf_ h (show 8 < n by omega)).trans ?_
  replace h := h.put (b := g) (i := 8) (v := .int .i64 x8)
  refine (lf_ h (show 9 < n by omega)).trans ?_
  replace h := h.put (b := g) (i := 9) (v := .int .i64 x9)
  refine (lf_ h (show 10 < n by omega)).trans ?_
  replace h := h.put (b := g) (i := 10) (v := .int .i64 x10)
  refine (lf_ h (show 11 < n by omega)).trans ?_
  replace h := h.put (b := g) (i := 11) (v := .int .i64 x11)
  refine (lf_ h (show 12 < n by omega)).trans ?_
  replace h := h.put (b := g) (i := 12) (v := .int .i64 x12)
  refine (lf_ h (show 13 < n by omega)).trans ?_
  replace h := h.put (b := g) (i := 13) (v := .int .i64 x13)
  refine (lf_ h (show 14 < n by omega)).trans ?_
  replace h := h.put (b := g) (i := 14) (v := .int .i64 x14)
  refine (lf_ h (show 15 < n by omega)).trans ?_
  replace h := h.put (b := g) (i := 15) (v := .int .i64 x15)
  exact lf0_ h (show 16 < n by omega)
set_option maxRecDepth 100000 in
theorem ld69_ {e : Operand → Value} {o : Oper} {p : Operand} {W : World} {g : Nat} {tt : TypeId} {v0 v1 v2 v3 v4 v5 v6 v7 v8 v9 v10 v11 v12 v13 v14 v15 v16 : Value} (ho : o.op = .load 69 p) (hp : e p = .pointer (some ⟨g,0,none⟩)) (hb : W.heap[g]? = some (.cells #[v0,v1,v2,v3,v4,v5,v6,v7,v8,v9,v10,v11,v12,v13,v14,v15,v16] tt (0,0))) : (execOp e o).run Try.prog W = .ok (.value (.agg #[v0,v1,v2,v3,v4,v5,v6,v7,v8,v9,v10,v11,v12,v13,v14,v15,v16])) W := by
  have hu := Try.underlying69
  obtain ⟨o1, o2, o3, o4, o5, o6⟩ := o
  dsimp only at ho
  subst ho
  have hc := fun i => blk_cell hb i
  clear hb
  revert hc
  go_simp
  intro hc
  change Result.andThen (Result.andThen ((ldd Try.prog W ⟨g,0,none⟩ .plain).andThen fun a0 w => (ldd Try.prog w ⟨g,1,none⟩ .plain).andThen fun a1 w => (ldd Try.prog w ⟨g,2,none⟩ .plain).andThen fun a2 w => (ldd Try.prog w ⟨g,3,none⟩ .plain).andThen fun a3 w => (ldd Try.prog w ⟨g,4,none⟩ .plain).andThen fun a4 w => (ldd Try.prog w ⟨g,5,none⟩ .plain).andThen fun a5 w => (ldd Try.prog w ⟨g,6,none⟩ .plain).andThen fun a6 w => (ldd Try.prog w ⟨g,7,none⟩ .plain).andThen fun a7 w => (ldd Try.prog w ⟨g,8,none⟩ .plain).andThen fun a8 w => (ldd Try.prog w ⟨g,9,none⟩ .plain).andThen fun a9 w => (ldd Try.prog w ⟨g,10,none⟩ .plain).andThen fun a10 w => (ldd Try.prog w ⟨g,11,none⟩ .plain).andThen fun a11 w => (ldd Try.prog w ⟨g,12,none⟩ .plain).andThen fun a12 w => (ldd Try.prog w ⟨g,13,none⟩ .plain).andThen fun a13 w => (ldd Try.prog w ⟨g,14,none⟩ .plain).andThen fun a14 w => (ldd Try.prog w ⟨g,15,none⟩ .plain).andThen fun a15 w => (ldd Try.prog w ⟨g,16,none⟩ .plain).andThen fun a16 w => Result.ok #[a0,a1,a2,a3,a4,a5,a6,a7,a8,a9,a10,a11,a12,a13,a14,a15,a16] w) (fun a w => Result.ok (Value.agg a) w)) (fun a w => Result.ok (Next.value a) w) = _
  refine ao_ (a := Value.agg #[v0,v1,v2,v3,v4,v5,v6,v7,v8,v9,v10,v11,v12,v13,v14,v15,v16]) (w := W) (ao_ (a := #[v0,v1,v2,v3,v4,v5,v6,v7,v8,v9,v10,v11,v12,v13,v14,v15,v16]) (w := W) ?_ rfl) rfl
  refine (lg_ (v := v0) (hc 0)).trans ?_
  refine (lg_ (v := v1) (hc 1)).trans ?_
  refine (lg_ (v := v2) (hc 2)).trans ?_
  refine (lg_ (v := v3) (hc 3)).trans ?_
  refine (lg_ (v := v4) (hc 4)).trans ?_
  refine (lg_ (v := v5) (hc 5)).trans ?_
  refine (lg_ (v := v6) (hc 6)).trans ?_
  refine (lg_ (v := v7) (hc 7)).trans ?_
  refine (lg_ (v := v8) (hc 8)).trans ?_
  refine (lg_ (v := v9) (hc 9)).trans ?_
  refine (lg_ (v := v10) (hc 10)).trans ?_
  refine (lg_ (v := v11) (hc 11)).trans ?_
  refine (lg_ (v := v12) (hc 12)).trans ?_
  refine (lg_ (v := v13) (hc 13)).trans ?_
  refine (lg_ (v := v14) (hc 14)).trans ?_
  refine (lg_ (v := v15) (hc 15)).trans ?_
  refine (lg_ (v := v16) (hc 16)).trans ?_
  rfl
set_option maxRecDepth 100000 in
theorem sa27_ {ops : Array Oper} {rest : List Oper} {o : Oper} {a : Act} {Q : Exit → Act → World → Prop} {W w1 : World} {p : Tmp} {v : Operand} (h : wpList Try.prog ops Q rest a w1) (_ho : o.op = .store 27 (.tmp p) v := by with_reducible rfl) (hgd : Region.wanted o (yielded ops a.tmps) = true := by rfl) (hN : o.dst = none := by rfl) (hrun : (execOp a.eval o).run Try.prog W = .ok .skip w1 := by first | exact st27_ rfl rfl rfl (bB_ (Aside0.out (by assumption))) (of_decide_eq_true (by kernel_rfl)) | exact st27o3_ rfl rfl rfl (bB_ (Aside0.out (by assumption))) (of_decide_eq_true (by kernel_rfl))) : wpList Try.prog ops Q (o :: rest) a W := stw_ hgd hN hrun h
set_option maxRecDepth 100000 in
theorem la27_ {ops : Array Oper} {rest : List Oper} {o : Oper} {a : Act} {Q : Exit → Act → World → Prop} {W : World} {p : Tmp} {x : Value} (h : wpList Try.prog ops Q rest (a.put o.dst x) W) (_ho : o.op = .load 27 (.tmp p) := by with_reducible rfl) (hgd : Region.wanted o (yielded ops a.tmps) = true := by rfl) (hrun : (execOp a.eval o).run Try.prog W = .ok (.value x) W := by first | exact ld27_ rfl rfl (pL_ (Aside0.out (by assumption))) | exact ld27o3_ rfl rfl (pL_ (Aside0.out (by assumption))) (by rfl) (by rfl) (by rfl) (by rfl) (by rfl) (by rfl) (by rfl) (by rfl) (by rfl) (by rfl) (by rfl) (by rfl) (by rfl) (by rfl) (by rfl) (by rfl) (by rfl) (by rfl) (by rfl) (by rfl) (by rfl)) : wpList Try.prog ops Q (o :: rest) a W := ldw_ hgd hrun h
set_option maxRecDepth 100000 in
theorem sa32_ {ops : Array Oper} {rest : List Oper} {o : Oper} {a : Act} {Q : Exit → Act → World → Prop} {W w1 : World} {p : Tmp} {v : Operand} (h : wpList Try.prog ops Q rest a w1) (_ho : o.op = .store 32 (.tmp p) v := by with_reducible rfl) (hgd : Region.wanted o (yielded ops a.tmps) = true := by rfl) (hN : o.dst = none := by rfl) (hrun : (execOp a.eval o).run Try.prog W = .ok .skip w1 := by first | exact st32_ rfl rfl rfl (bB_ (Aside0.out (by assumption))) (of_decide_eq_true (by kernel_rfl))) : wpList Try.prog ops Q (o :: rest) a W := stw_ hgd hN hrun h
set_option maxRecDepth 100000 in
theorem la32_ {ops : Array Oper} {rest : List Oper} {o : Oper} {a : Act} {Q : Exit → Act → World → Prop} {W : World} {p : Tmp} {x : Value} (h : wpList Try.prog ops Q rest (a.put o.dst x) W) (_ho : o.op = .load 32 (.tmp p) := by with_reducible rfl) (hgd : Region.wanted o (yielded ops a.tmps) = true := by rfl) (hrun : (execOp a.eval o).run Try.prog W = .ok (.value x) W := by first | exact ld32_ rfl rfl (pL_ (Aside0.out (by assumption)))) : wpList Try.prog ops Q (o :: rest) a W := ldw_ hgd hrun h
set_option maxRecDepth 100000 in
theorem sa39_ {ops : Array Oper} {rest : List Oper} {o : Oper} {a : Act} {Q : Exit → Act → World → Prop} {W w1 : World} {p : Tmp} {v : Operand} (h : wpList Try.prog ops Q rest a w1) (_ho : o.op = .store 39 (.tmp p) v := by with_reducible rfl) (hgd : Region.wanted o (yielded ops a.tmps) = true := by rfl) (hN : o.dst = none := by rfl) (hrun : (execOp a.eval o).run Try.prog W = .ok .skip w1 := by first | exact st39_ rfl rfl rfl (bB_ (Aside0.out (by assumption))) (of_decide_eq_true (by kernel_rfl)) | exact st39o3_ rfl rfl rfl (bB_ (Aside0.out (by assumption))) (of_decide_eq_true (by kernel_rfl))) : wpList Try.prog ops Q (o :: rest) a W := stw_ hgd hN hrun h
set_option maxRecDepth 100000 in
theorem la39_ {ops : Array Oper} {rest : List Oper} {o : Oper} {a : Act} {Q : Exit → Act → World → Prop} {W : World} {p : Tmp} {x : Value} (h : wpList Try.prog ops Q rest (a.put o.dst x) W) (_ho : o.op = .load 39 (.tmp p) := by with_reducible rfl) (hgd : Region.wanted o (yielded ops a.tmps) = true := by rfl) (hrun : (execOp a.eval o).run Try.prog W = .ok (.value x) W := by first | exact ld39_ rfl rfl (pL_ (Aside0.out (by assumption))) | exact ld39o3_ rfl rfl (pL_ (Aside0.out (by assumption))) (by rfl) (by rfl) (by rfl) (by rfl) (by rfl) (by rfl) (by rfl) (by rfl) (by rfl) (by rfl) (by rfl) (by rfl) (by rfl) (by rfl) (by rfl) (by rfl) (by rfl) (by rfl) (by rfl) (by rfl) (by rfl)) : wpList Try.prog ops Q (o :: rest) a W := ldw_ hgd hrun h
set_option maxRecDepth 100000 in
theorem sa43_ {ops : Array Oper} {rest : List Oper} {o : Oper} {a : Act} {Q : Exit → Act → World → Prop} {W w1 : World} {p : Tmp} {v : Operand} (h : wpList Try.prog ops Q rest a w1) (_ho : o.op = .store 43 (.tmp p) v := by with_reducible rfl) (hgd : Region.wanted o (yielded ops a.tmps) = true := by rfl) (hN : o.dst = none := by rfl) (hrun : (execOp a.eval o).run Try.prog W = .ok .skip w1 := by first | exact st43_ rfl rfl rfl (bB_ (Aside0.out (by assumption))) (of_decide_eq_true (by kernel_rfl))) : wpList Try.prog ops Q (o :: rest) a W := stw_ hgd hN hrun h
set_option maxRecDepth 100000 in
theorem la43_ {ops : Array Oper} {rest : List Oper} {o : Oper} {a : Act} {Q : Exit → Act → World → Prop} {W : World} {p : Tmp} {x : Value} (h : wpList Try.prog ops Q rest (a.put o.dst x) W) (_ho : o.op = .load 43 (.tmp p) := by with_reducible rfl) (hgd : Region.wanted o (yielded ops a.tmps) = true := by rfl) (hrun : (execOp a.eval o).run Try.prog W = .ok (.value x) W := by first | exact ld43_ rfl rfl (pL_ (Aside0.out (by assumption)))) : wpList Try.prog ops Q (o :: rest) a W := ldw_ hgd hrun h
set_option maxRecDepth 100000 in
theorem sa65_ {ops : Array Oper} {rest : List Oper} {o : Oper} {a : Act} {Q : Exit → Act → World → Prop} {W w1 : World} {p : Tmp} {v : Operand} (h : wpList Try.prog ops Q rest a w1) (_ho : o.op = .store 65 (.tmp p) v := by with_reducible rfl) (hgd : Region.wanted o (yielded ops a.tmps) = true := by rfl) (hN : o.dst = none := by rfl) (hrun : (execOp a.eval o).run Try.prog W = .ok .skip w1 := by first | exact st65_ rfl rfl rfl (bB_ (Aside0.out (by assumption))) (of_decide_eq_true (by kernel_rfl))) : wpList Try.prog ops Q (o :: rest) a W := stw_ hgd hN hrun h
set_option maxRecDepth 100000 in
theorem la65_ {ops : Array Oper} {rest : List Oper} {o : Oper} {a : Act} {Q : Exit → Act → World → Prop} {W : World} {p : Tmp} {x : Value} (h : wpList Try.prog ops Q rest (a.put o.dst x) W) (_ho : o.op = .load 65 (.tmp p) := by with_reducible rfl) (hgd : Region.wanted o (yielded ops a.tmps) = true := by rfl) (hrun : (execOp a.eval o).run Try.prog W = .ok (.value x) W := by first | exact ld65_ rfl rfl (pL_ (Aside0.out (by assumption)))) : wpList Try.prog ops Q (o :: rest) a W := ldw_ hgd hrun h
set_option maxRecDepth 100000 in
theorem sa69_ {ops : Array Oper} {rest : List Oper} {o : Oper} {a : Act} {Q : Exit → Act → World → Prop} {W w1 : World} {p : Tmp} {v : Operand} (h : wpList Try.prog ops Q rest a w1) (_ho : o.op = .store 69 (.tmp p) v := by with_reducible rfl) (hgd : Region.wanted o (yielded ops a.tmps) = true := by rfl) (hN : o.dst = none := by rfl) (hrun : (execOp a.eval o).run Try.prog W = .ok .skip w1 := by first | exact st69_ rfl rfl rfl (bB_ (Aside0.out (by assumption))) (of_decide_eq_true (by kernel_rfl))) : wpList Try.prog ops Q (o :: rest) a W := stw_ hgd hN hrun h
set_option maxRecDepth 100000 in
theorem la69_ {ops : Array Oper} {rest : List Oper} {o : Oper} {a : Act} {Q : Exit → Act → World → Prop} {W : World} {p : Tmp} {x : Value} (h : wpList Try.prog ops Q rest (a.put o.dst x) W) (_ho : o.op = .load 69 (.tmp p) := by with_reducible rfl) (hgd : Region.wanted o (yielded ops a.tmps) = true := by rfl) (hrun : (execOp a.eval o).run Try.prog W = .ok (.value x) W := by first | exact ld69_ rfl rfl (pL_ (Aside0.out (by assumption)))) : wpList Try.prog ops Q (o :: rest) a W := ldw_ hgd hrun h
set_option linter.unusedVariables false
set_option maxRecDepth 100000 in
theorem ld25o1_ {e : Operand → Value} {o : Oper} {p : Operand} {W : World} {g : Nat} {tt : TypeId} {cs : Array Value} {v0 v1 v2 v3 v4 v5 : Value} (ho : o.op = .load 25 p) (hp : e p = .pointer (some ⟨g,1,none⟩)) (hb : W.heap[g]? = some (.cells cs tt (0,0))) (e0 : cs[1]? = some v0) (e1 : cs[2]? = some v1) (e2 : cs[3]? = some v2) (e3 : cs[4]? = some v3) (e4 : cs[5]? = some v4) (e5 : cs[6]? = some v5) : (execOp e o).run Try.prog W = .ok (.value (.agg #[v0,v1,v2,v3,v4,v5])) W := by
  have hu := Try.underlying25
  obtain ⟨o1, o2, o3, o4, o5, o6⟩ := o
  dsimp only at ho
  subst ho
  have h0 := (blk_cell hb 1).trans e0
  have h1 := (blk_cell hb 2).trans e1
  have h2 := (blk_cell hb 3).trans e2
  have h3 := (blk_cell hb 4).trans e3
  have h4 := (blk_cell hb 5).trans e4
  have h5 := (blk_cell hb 6).trans e5
  go_simp
set_option maxRecDepth 100000 in
theorem st25o1_ {e : Operand → Value} {o : Oper} {p v : Operand} {W : World} {g n : Nat} {x0 : Int} {x1 : Int} {x2 : Int} {x3 : Int} {x4 : Int} {x5 : Int} (ho : o.op = .store 25 p v) (hp : e p = .pointer (some ⟨g,1,none⟩)) (hv : e v = .agg #[.int .i64 x0,.int .i64 x1,.int .i64 x2,.int .i64 x3,.int .i64 x4,.int .i64 x5]) (hb : Blk W g n) (hn : 7 ≤ n) : (execOp e o).run Try.prog W = .ok .skip ((((((W.setCell ⟨g,1,none⟩ (.int .i64 x0)).setCell ⟨g,2,none⟩ (.int .i64 x1)).setCell ⟨g,3,none⟩ (.int .i64 x2)).setCell ⟨g,4,none⟩ (.int .i64 x3)).setCell ⟨g,5,none⟩ (.int .i64 x4)).setCell ⟨g,6,none⟩ (.int .i64 x5)) := by
  have hu := Try.underlying25
  obtain ⟨o1, o2, o3, o4, o5, o6⟩ := o
  dsimp only at ho
  subst ho
  go_simp
  change Result.andThen ((stored Try.prog W ⟨g,1,none⟩ (.int .i64 x0) .plain).andThen fun _ w => (stored Try.prog w ⟨g,2,none⟩ (.int .i64 x1) .plain).andThen fun _ w => (stored Try.prog w ⟨g,3,none⟩ (.int .i64 x2) .plain).andThen fun _ w => (stored Try.prog w ⟨g,4,none⟩ (.int .i64 x3) .plain).andThen fun _ w => (stored Try.prog w ⟨g,5,none⟩ (.int .i64 x4) .plain).andThen fun _ w => stored Try.prog w ⟨g,6,none⟩ (.int .i64 x5) .plain) (fun _ w => Result.ok Next.skip w) = _
  refine ao_ (a := ()) (w := ((((((W.setCell ⟨g,1,none⟩ (.int .i64 x0)).setCell ⟨g,2,none⟩ (.int .i64 x1)).setCell ⟨g,3,none⟩ (.int .i64 x2)).setCell ⟨g,4,none⟩ (.int .i64 x3)).setCell ⟨g,5,none⟩ (.int .i64 x4)).setCell ⟨g,6,none⟩ (.int .i64 x5))) ?_ rfl
  have h := hb
  refine (lf_ h (show 1 < n by omega)).trans ?_
  replace h := h.put (b := g) (i := 1) (v := .int .i64 x0)
  refine (lf_ h (show 2 < n by omega)).trans ?_
  replace h := h.put (b := g) (i := 2) (v := .int .i64 x1)
  refine (lf_ h (show 3 < n by omega)).trans ?_
  replace h := h.put (b := g) (i := 3) (v := .int .i64 x2)
  refine (lf_ h (show 4 < n by omega)).trans ?_
  replace h := h.put (b := g) (i := 4) (v := .int .i64 x3)
  refine (lf_ h (show 5 < n by omega)).trans ?_
  replace h := h.put (b := g) (i := 5) (v := .int .i64 x4)
  exact lf0_ h (show 6 < n by omega)
theorem sa25o1_ {ops : Array Oper} {rest : List Oper} {o : Oper} {a : Act} {Q : Exit → Act → World → Prop} {W w1 : World} {p : Tmp} {v : Operand} (h : wpList Try.prog ops Q rest a w1) (_ho : o.op = .store 25 (.tmp p) v := by with_reducible rfl) (hgd : Region.wanted o (yielded ops a.tmps) = true := by rfl) (hN : o.dst = none := by rfl) (hrun : (execOp a.eval o).run Try.prog W = .ok .skip w1 := by exact st25o1_ rfl rfl rfl (bB_ (Aside0.out (by assumption))) (of_decide_eq_true (by kernel_rfl))) : wpList Try.prog ops Q (o :: rest) a W := stw_ hgd hN hrun h
theorem la25o1_ {ops : Array Oper} {rest : List Oper} {o : Oper} {a : Act} {Q : Exit → Act → World → Prop} {W : World} {p : Tmp} {x : Value} (h : wpList Try.prog ops Q rest (a.put o.dst x) W) (_ho : o.op = .load 25 (.tmp p) := by with_reducible rfl) (hgd : Region.wanted o (yielded ops a.tmps) = true := by rfl) (hrun : (execOp a.eval o).run Try.prog W = .ok (.value x) W := by exact ld25o1_ rfl rfl (pL_ (Aside0.out (by assumption))) (by rfl) (by rfl) (by rfl) (by rfl) (by rfl) (by rfl)) : wpList Try.prog ops Q (o :: rest) a W := ldw_ hgd hrun h
set_option maxRecDepth 100000 in
theorem ld25o7_ {e : Operand → Value} {o : Oper} {p : Operand} {W : World} {g : Nat} {tt : TypeId} {cs : Array Value} {v0 v1 v2 v3 v4 v5 : Value} (ho : o.op = .load 25 p) (hp : e p = .pointer (some ⟨g,7,none⟩)) (hb : W.heap[g]? = some (.cells cs tt (0,0))) (e0 : cs[7]? = some v0) (e1 : cs[8]? = some v1) (e2 : cs[9]? = some v2) (e3 : cs[10]? = some v3) (e4 : cs[11]? = some v4) (e5 : cs[12]? = some v5) : (execOp e o).run Try.prog W = .ok (.value (.agg #[v0,v1,v2,v3,v4,v5])) W := by
  have hu := Try.underlying25
  obtain ⟨o1, o2, o3, o4, o5, o6⟩ := o
  dsimp only at ho
  subst ho
  have h0 := (blk_cell hb 7).trans e0
  have h1 := (blk_cell hb 8).trans e1
  have h2 := (blk_cell hb 9).trans e2
  have h3 := (blk_cell hb 10).trans e3
  have h4 := (blk_cell hb 11).trans e4
  have h5 := (blk_cell hb 12).trans e5
  go_simp
set_option maxRecDepth 100000 in
theorem st25o7_ {e : Operand → Value} {o : Oper} {p v : Operand} {W : World} {g n : Nat} {x0 : Int} {x1 : Int} {x2 : Int} {x3 : Int} {x4 : Int} {x5 : Int} (ho : o.op = .store 25 p v) (hp : e p = .pointer (some ⟨g,7,none⟩)) (hv : e v = .agg #[.int .i64 x0,.int .i64 x1,.int .i64 x2,.int .i64 x3,.int .i64 x4,.int .i64 x5]) (hb : Blk W g n) (hn : 13 ≤ n) : (execOp e o).run Try.prog W = .ok .skip ((((((W.setCell ⟨g,7,none⟩ (.int .i64 x0)).setCell ⟨g,8,none⟩ (.int .i64 x1)).setCell ⟨g,9,none⟩ (.int .i64 x2)).setCell ⟨g,10,none⟩ (.int .i64 x3)).setCell ⟨g,11,none⟩ (.int .i64 x4)).setCell ⟨g,12,none⟩ (.int .i64 x5)) := by
  have hu := Try.underlying25
  obtain ⟨o1, o2, o3, o4, o5, o6⟩ := o
  dsimp only at ho
  subst ho
  go_simp
  change Result.andThen ((stored Try.prog W ⟨g,7,none⟩ (.int .i64 x0) .plain).andThen fun _ w => (stored Try.prog w ⟨g,8,none⟩ (.int .i64 x1) .plain).andThen fun _ w => (stored Try.prog w ⟨g,9,none⟩ (.int .i64 x2) .plain).andThen fun _ w => (stored Try.prog w ⟨g,10,none⟩ (.int .i64 x3) .plain).andThen fun _ w => (stored Try.prog w ⟨g,11,none⟩ (.int .i64 x4) .plain).andThen fun _ w => stored Try.prog w ⟨g,12,none⟩ (.int .i64 x5) .plain) (fun _ w => Result.ok Next.skip w) = _
  refine ao_ (a := ()) (w := ((((((W.setCell ⟨g,7,none⟩ (.int .i64 x0)).setCell ⟨g,8,none⟩ (.int .i64 x1)).setCell ⟨g,9,none⟩ (.int .i64 x2)).setCell ⟨g,10,none⟩ (.int .i64 x3)).setCell ⟨g,11,none⟩ (.int .i64 x4)).setCell ⟨g,12,none⟩ (.int .i64 x5))) ?_ rfl
  have h := hb
  refine (lf_ h (show 7 < n by omega)).trans ?_
  replace h := h.put (b := g) (i := 7) (v := .int .i64 x0)
  refine (lf_ h (show 8 < n by omega)).trans ?_
  replace h := h.put (b := g) (i := 8) (v := .int .i64 x1)
  refine (lf_ h (show 9 < n by omega)).trans ?_
  replace h := h.put (b := g) (i := 9) (v := .int .i64 x2)
  refine (lf_ h (show 10 < n by omega)).trans ?_
  replace h := h.put (b := g) (i := 10) (v := .int .i64 x3)
  refine (lf_ h (show 11 < n by omega)).trans ?_
  replace h := h.put (b := g) (i := 11) (v := .int .i64 x4)
  exact lf0_ h (show 12 < n by omega)
theorem sa25o7_ {ops : Array Oper} {rest : List Oper} {o : Oper} {a : Act} {Q : Exit → Act → World → Prop} {W w1 : World} {p : Tmp} {v : Operand} (h : wpList Try.prog ops Q rest a w1) (_ho : o.op = .store 25 (.tmp p) v := by with_reducible rfl) (hgd : Region.wanted o (yielded ops a.tmps) = true := by rfl) (hN : o.dst = none := by rfl) (hrun : (execOp a.eval o).run Try.prog W = .ok .skip w1 := by exact st25o7_ rfl rfl rfl (bB_ (Aside0.out (by assumption))) (of_decide_eq_true (by kernel_rfl))) : wpList Try.prog ops Q (o :: rest) a W := stw_ hgd hN hrun h
theorem la25o7_ {ops : Array Oper} {rest : List Oper} {o : Oper} {a : Act} {Q : Exit → Act → World → Prop} {W : World} {p : Tmp} {x : Value} (h : wpList Try.prog ops Q rest (a.put o.dst x) W) (_ho : o.op = .load 25 (.tmp p) := by with_reducible rfl) (hgd : Region.wanted o (yielded ops a.tmps) = true := by rfl) (hrun : (execOp a.eval o).run Try.prog W = .ok (.value x) W := by exact ld25o7_ rfl rfl (pL_ (Aside0.out (by assumption))) (by rfl) (by rfl) (by rfl) (by rfl) (by rfl) (by rfl)) : wpList Try.prog ops Q (o :: rest) a W := ldw_ hgd hrun h
set_option maxRecDepth 100000 in
theorem ld29o24_ {e : Operand → Value} {o : Oper} {p : Operand} {W : World} {g : Nat} {tt : TypeId} {cs : Array Value} {v0 v1 v2 v3 v4 : Value} (ho : o.op = .load 29 p) (hp : e p = .pointer (some ⟨g,24,none⟩)) (hb : W.heap[g]? = some (.cells cs tt (0,0))) (e0 : cs[24]? = some v0) (e1 : cs[25]? = some v1) (e2 : cs[26]? = some v2) (e3 : cs[27]? = some v3) (e4 : cs[28]? = some v4) : (execOp e o).run Try.prog W = .ok (.value (.agg #[v0,v1,v2,v3,v4])) W := by
  have hu := Try.underlying29
  obtain ⟨o1, o2, o3, o4, o5, o6⟩ := o
  dsimp only at ho
  subst ho
  have h0 := (blk_cell hb 24).trans e0
  have h1 := (blk_cell hb 25).trans e1
  have h2 := (blk_cell hb 26).trans e2
  have h3 := (blk_cell hb 27).trans e3
  have h4 := (blk_cell hb 28).trans e4
  go_simp
set_option maxRecDepth 100000 in
theorem st29o24_ {e : Operand → Value} {o : Oper} {p v : Operand} {W : World} {g n : Nat} {x0 : Int} {x1 : Int} {x2 : Int} {x3 : Int} {x4 : Bool} (ho : o.op = .store 29 p v) (hp : e p = .pointer (some ⟨g,24,none⟩)) (hv : e v = .agg #[.int .i64 x0,.int .i64 x1,.int .i64 x2,.int .i64 x3,.bool x4]) (hb : Blk W g n) (hn : 29 ≤ n) : (execOp e o).run Try.prog W = .ok .skip (((((W.setCell ⟨g,24,none⟩ (.int .i64 x0)).setCell ⟨g,25,none⟩ (.int .i64 x1)).setCell ⟨g,26,none⟩ (.int .i64 x2)).setCell ⟨g,27,none⟩ (.int .i64 x3)).setCell ⟨g,28,none⟩ (.bool x4)) := by
  have hu := Try.underlying29
  obtain ⟨o1, o2, o3, o4, o5, o6⟩ := o
  dsimp only at ho
  subst ho
  go_simp
  change Result.andThen ((stored Try.prog W ⟨g,24,none⟩ (.int .i64 x0) .plain).andThen fun _ w => (stored Try.prog w ⟨g,25,none⟩ (.int .i64 x1) .plain).andThen fun _ w => (stored Try.prog w ⟨g,26,none⟩ (.int .i64 x2) .plain).andThen fun _ w => (stored Try.prog w ⟨g,27,none⟩ (.int .i64 x3) .plain).andThen fun _ w => stored Try.prog w ⟨g,28,none⟩ (.bool x4) .plain) (fun _ w => Result.ok Next.skip w) = _
  refine ao_ (a := ()) (w := (((((W.setCell ⟨g,24,none⟩ (.int .i64 x0)).setCell ⟨g,25,none⟩ (.int .i64 x1)).setCell ⟨g,26,none⟩ (.int .i64 x2)).setCell ⟨g,27,none⟩ (.int .i64 x3)).setCell ⟨g,28,none⟩ (.bool x4))) ?_ rfl
  have h := hb
  refine (lf_ h (show 24 < n by omega)).trans ?_
  replace h := h.put (b := g) (i := 24) (v := .int .i64 x0)
  refine (lf_ h (show 25 < n by omega)).trans ?_
  replace h := h.put (b := g) (i := 25) (v := .int .i64 x1)
  refine (lf_ h (show 26 < n by omega)).trans ?_
  replace h := h.put (b := g) (i := 26) (v := .int .i64 x2)
  refine (lf_ h (show 27 < n by omega)).trans ?_
  replace h := h.put (b := g) (i := 27) (v := .int .i64 x3)
  exact lf0_ h (show 28 < n by omega)
theorem sa29o24_ {ops : Array Oper} {rest : List Oper} {o : Oper} {a : Act} {Q : Exit → Act → World → Prop} {W w1 : World} {p : Tmp} {v : Operand} (h : wpList Try.prog ops Q rest a w1) (_ho : o.op = .store 29 (.tmp p) v := by with_reducible rfl) (hgd : Region.wanted o (yielded ops a.tmps) = true := by rfl) (hN : o.dst = none := by rfl) (hrun : (execOp a.eval o).run Try.prog W = .ok .skip w1 := by exact st29o24_ rfl rfl rfl (bB_ (Aside0.out (by assumption))) (of_decide_eq_true (by kernel_rfl))) : wpList Try.prog ops Q (o :: rest) a W := stw_ hgd hN hrun h
theorem la29o24_ {ops : Array Oper} {rest : List Oper} {o : Oper} {a : Act} {Q : Exit → Act → World → Prop} {W : World} {p : Tmp} {x : Value} (h : wpList Try.prog ops Q rest (a.put o.dst x) W) (_ho : o.op = .load 29 (.tmp p) := by with_reducible rfl) (hgd : Region.wanted o (yielded ops a.tmps) = true := by rfl) (hrun : (execOp a.eval o).run Try.prog W = .ok (.value x) W := by exact ld29o24_ rfl rfl (pL_ (Aside0.out (by assumption))) (by rfl) (by rfl) (by rfl) (by rfl) (by rfl)) : wpList Try.prog ops Q (o :: rest) a W := ldw_ hgd hrun h
set_option maxRecDepth 100000 in
theorem ld37o1_ {e : Operand → Value} {o : Oper} {p : Operand} {W : World} {g : Nat} {tt : TypeId} {cs : Array Value} {v0 v1 v2 v3 v4 v5 : Value} (ho : o.op = .load 37 p) (hp : e p = .pointer (some ⟨g,1,none⟩)) (hb : W.heap[g]? = some (.cells cs tt (0,0))) (e0 : cs[1]? = some v0) (e1 : cs[2]? = some v1) (e2 : cs[3]? = some v2) (e3 : cs[4]? = some v3) (e4 : cs[5]? = some v4) (e5 : cs[6]? = some v5) : (execOp e o).run Try.prog W = .ok (.value (.agg #[v0,v1,v2,v3,v4,v5])) W := by
  have hu := Try.underlying37
  obtain ⟨o1, o2, o3, o4, o5, o6⟩ := o
  dsimp only at ho
  subst ho
  have h0 := (blk_cell hb 1).trans e0
  have h1 := (blk_cell hb 2).trans e1
  have h2 := (blk_cell hb 3).trans e2
  have h3 := (blk_cell hb 4).trans e3
  have h4 := (blk_cell hb 5).trans e4
  have h5 := (blk_cell hb 6).trans e5
  go_simp
set_option maxRecDepth 100000 in
theorem st37o1_ {e : Operand → Value} {o : Oper} {p v : Operand} {W : World} {g n : Nat} {x0 : Int} {x1 : Int} {x2 : Int} {x3 : Int} {x4 : Int} {x5 : Int} (ho : o.op = .store 37 p v) (hp : e p = .pointer (some ⟨g,1,none⟩)) (hv : e v = .agg #[.int .i64 x0,.int .i64 x1,.int .i64 x2,.int .i64 x3,.int .i64 x4,.int .i64 x5]) (hb : Blk W g n) (hn : 7 ≤ n) : (execOp e o).run Try.prog W = .ok .skip ((((((W.setCell ⟨g,1,none⟩ (.int .i64 x0)).setCell ⟨g,2,none⟩ (.int .i64 x1)).setCell ⟨g,3,none⟩ (.int .i64 x2)).setCell ⟨g,4,none⟩ (.int .i64 x3)).setCell ⟨g,5,none⟩ (.int .i64 x4)).setCell ⟨g,6,none⟩ (.int .i64 x5)) := by
  have hu := Try.underlying37
  obtain ⟨o1, o2, o3, o4, o5, o6⟩ := o
  dsimp only at ho
  subst ho
  go_simp
  change Result.andThen ((stored Try.prog W ⟨g,1,none⟩ (.int .i64 x0) .plain).andThen fun _ w => (stored Try.prog w ⟨g,2,none⟩ (.int .i64 x1) .plain).andThen fun _ w => (stored Try.prog w ⟨g,3,none⟩ (.int .i64 x2) .plain).andThen fun _ w => (stored Try.prog w ⟨g,4,none⟩ (.int .i64 x3) .plain).andThen fun _ w => (stored Try.prog w ⟨g,5,none⟩ (.int .i64 x4) .plain).andThen fun _ w => stored Try.prog w ⟨g,6,none⟩ (.int .i64 x5) .plain) (fun _ w => Result.ok Next.skip w) = _
  refine ao_ (a := ()) (w := ((((((W.setCell ⟨g,1,none⟩ (.int .i64 x0)).setCell ⟨g,2,none⟩ (.int .i64 x1)).setCell ⟨g,3,none⟩ (.int .i64 x2)).setCell ⟨g,4,none⟩ (.int .i64 x3)).setCell ⟨g,5,none⟩ (.int .i64 x4)).setCell ⟨g,6,none⟩ (.int .i64 x5))) ?_ rfl
  have h := hb
  refine (lf_ h (show 1 < n by omega)).trans ?_
  replace h := h.put (b := g) (i := 1) (v := .int .i64 x0)
  refine (lf_ h (show 2 < n by omega)).trans ?_
  replace h := h.put (b := g) (i := 2) (v := .int .i64 x1)
  refine (lf_ h (show 3 < n by omega)).trans ?_
  replace h := h.put (b := g) (i := 3) (v := .int .i64 x2)
  refine (lf_ h (show 4 < n by omega)).trans ?_
  replace h := h.put (b := g) (i := 4) (v := .int .i64 x3)
  refine (lf_ h (show 5 < n by omega)).trans ?_
  replace h := h.put (b := g) (i := 5) (v := .int .i64 x4)
  exact lf0_ h (show 6 < n by omega)
theorem sa37o1_ {ops : Array Oper} {rest : List Oper} {o : Oper} {a : Act} {Q : Exit → Act → World → Prop} {W w1 : World} {p : Tmp} {v : Operand} (h : wpList Try.prog ops Q rest a w1) (_ho : o.op = .store 37 (.tmp p) v := by with_reducible rfl) (hgd : Region.wanted o (yielded ops a.tmps) = true := by rfl) (hN : o.dst = none := by rfl) (hrun : (execOp a.eval o).run Try.prog W = .ok .skip w1 := by exact st37o1_ rfl rfl rfl (bB_ (Aside0.out (by assumption))) (of_decide_eq_true (by kernel_rfl))) : wpList Try.prog ops Q (o :: rest) a W := stw_ hgd hN hrun h
theorem la37o1_ {ops : Array Oper} {rest : List Oper} {o : Oper} {a : Act} {Q : Exit → Act → World → Prop} {W : World} {p : Tmp} {x : Value} (h : wpList Try.prog ops Q rest (a.put o.dst x) W) (_ho : o.op = .load 37 (.tmp p) := by with_reducible rfl) (hgd : Region.wanted o (yielded ops a.tmps) = true := by rfl) (hrun : (execOp a.eval o).run Try.prog W = .ok (.value x) W := by exact ld37o1_ rfl rfl (pL_ (Aside0.out (by assumption))) (by rfl) (by rfl) (by rfl) (by rfl) (by rfl) (by rfl)) : wpList Try.prog ops Q (o :: rest) a W := ldw_ hgd hrun h
set_option maxRecDepth 100000 in
theorem ld37o7_ {e : Operand → Value} {o : Oper} {p : Operand} {W : World} {g : Nat} {tt : TypeId} {cs : Array Value} {v0 v1 v2 v3 v4 v5 : Value} (ho : o.op = .load 37 p) (hp : e p = .pointer (some ⟨g,7,none⟩)) (hb : W.heap[g]? = some (.cells cs tt (0,0))) (e0 : cs[7]? = some v0) (e1 : cs[8]? = some v1) (e2 : cs[9]? = some v2) (e3 : cs[10]? = some v3) (e4 : cs[11]? = some v4) (e5 : cs[12]? = some v5) : (execOp e o).run Try.prog W = .ok (.value (.agg #[v0,v1,v2,v3,v4,v5])) W := by
  have hu := Try.underlying37
  obtain ⟨o1, o2, o3, o4, o5, o6⟩ := o
  dsimp only at ho
  subst ho
  have h0 := (blk_cell hb 7).trans e0
  have h1 := (blk_cell hb 8).trans e1
  have h2 := (blk_cell hb 9).trans e2
  have h3 := (blk_cell hb 10).trans e3
  have h4 := (blk_cell hb 11).trans e4
  have h5 := (blk_cell hb 12).trans e5
  go_simp
set_option maxRecDepth 100000 in
theorem st37o7_ {e : Operand → Value} {o : Oper} {p v : Operand} {W : World} {g n : Nat} {x0 : Int} {x1 : Int} {x2 : Int} {x3 : Int} {x4 : Int} {x5 : Int} (ho : o.op = .store 37 p v) (hp : e p = .pointer (some ⟨g,7,none⟩)) (hv : e v = .agg #[.int .i64 x0,.int .i64 x1,.int .i64 x2,.int .i64 x3,.int .i64 x4,.int .i64 x5]) (hb : Blk W g n) (hn : 13 ≤ n) : (execOp e o).run Try.prog W = .ok .skip ((((((W.setCell ⟨g,7,none⟩ (.int .i64 x0)).setCell ⟨g,8,none⟩ (.int .i64 x1)).setCell ⟨g,9,none⟩ (.int .i64 x2)).setCell ⟨g,10,none⟩ (.int .i64 x3)).setCell ⟨g,11,none⟩ (.int .i64 x4)).setCell ⟨g,12,none⟩ (.int .i64 x5)) := by
  have hu := Try.underlying37
  obtain ⟨o1, o2, o3, o4, o5, o6⟩ := o
  dsimp only at ho
  subst ho
  go_simp
  change Result.andThen ((stored Try.prog W ⟨g,7,none⟩ (.int .i64 x0) .plain).andThen fun _ w => (stored Try.prog w ⟨g,8,none⟩ (.int .i64 x1) .plain).andThen fun _ w => (stored Try.prog w ⟨g,9,none⟩ (.int .i64 x2) .plain).andThen fun _ w => (stored Try.prog w ⟨g,10,none⟩ (.int .i64 x3) .plain).andThen fun _ w => (stored Try.prog w ⟨g,11,none⟩ (.int .i64 x4) .plain).andThen fun _ w => stored Try.prog w ⟨g,12,none⟩ (.int .i64 x5) .plain) (fun _ w => Result.ok Next.skip w) = _
  refine ao_ (a := ()) (w := ((((((W.setCell ⟨g,7,none⟩ (.int .i64 x0)).setCell ⟨g,8,none⟩ (.int .i64 x1)).setCell ⟨g,9,none⟩ (.int .i64 x2)).setCell ⟨g,10,none⟩ (.int .i64 x3)).setCell ⟨g,11,none⟩ (.int .i64 x4)).setCell ⟨g,12,none⟩ (.int .i64 x5))) ?_ rfl
  have h := hb
  refine (lf_ h (show 7 < n by omega)).trans ?_
  replace h := h.put (b := g) (i := 7) (v := .int .i64 x0)
  refine (lf_ h (show 8 < n by omega)).trans ?_
  replace h := h.put (b := g) (i := 8) (v := .int .i64 x1)
  refine (lf_ h (show 9 < n by omega)).trans ?_
  replace h := h.put (b := g) (i := 9) (v := .int .i64 x2)
  refine (lf_ h (show 10 < n by omega)).trans ?_
  replace h := h.put (b := g) (i := 10) (v := .int .i64 x3)
  refine (lf_ h (show 11 < n by omega)).trans ?_
  replace h := h.put (b := g) (i := 11) (v := .int .i64 x4)
  exact lf0_ h (show 12 < n by omega)
theorem sa37o7_ {ops : Array Oper} {rest : List Oper} {o : Oper} {a : Act} {Q : Exit → Act → World → Prop} {W w1 : World} {p : Tmp} {v : Operand} (h : wpList Try.prog ops Q rest a w1) (_ho : o.op = .store 37 (.tmp p) v := by with_reducible rfl) (hgd : Region.wanted o (yielded ops a.tmps) = true := by rfl) (hN : o.dst = none := by rfl) (hrun : (execOp a.eval o).run Try.prog W = .ok .skip w1 := by exact st37o7_ rfl rfl rfl (bB_ (Aside0.out (by assumption))) (of_decide_eq_true (by kernel_rfl))) : wpList Try.prog ops Q (o :: rest) a W := stw_ hgd hN hrun h
theorem la37o7_ {ops : Array Oper} {rest : List Oper} {o : Oper} {a : Act} {Q : Exit → Act → World → Prop} {W : World} {p : Tmp} {x : Value} (h : wpList Try.prog ops Q rest (a.put o.dst x) W) (_ho : o.op = .load 37 (.tmp p) := by with_reducible rfl) (hgd : Region.wanted o (yielded ops a.tmps) = true := by rfl) (hrun : (execOp a.eval o).run Try.prog W = .ok (.value x) W := by exact ld37o7_ rfl rfl (pL_ (Aside0.out (by assumption))) (by rfl) (by rfl) (by rfl) (by rfl) (by rfl) (by rfl)) : wpList Try.prog ops Q (o :: rest) a W := ldw_ hgd hrun h
set_option maxRecDepth 100000 in
theorem ld40o24_ {e : Operand → Value} {o : Oper} {p : Operand} {W : World} {g : Nat} {tt : TypeId} {cs : Array Value} {v0 v1 v2 v3 v4 : Value} (ho : o.op = .load 40 p) (hp : e p = .pointer (some ⟨g,24,none⟩)) (hb : W.heap[g]? = some (.cells cs tt (0,0))) (e0 : cs[24]? = some v0) (e1 : cs[25]? = some v1) (e2 : cs[26]? = some v2) (e3 : cs[27]? = some v3) (e4 : cs[28]? = some v4) : (execOp e o).run Try.prog W = .ok (.value (.agg #[v0,v1,v2,v3,v4])) W := by
  have hu := Try.underlying40
  obtain ⟨o1, o2, o3, o4, o5, o6⟩ := o
  dsimp only at ho
  subst ho
  have h0 := (blk_cell hb 24).trans e0
  have h1 := (blk_cell hb 25).trans e1
  have h2 := (blk_cell hb 26).trans e2
  have h3 := (blk_cell hb 27).trans e3
  have h4 := (blk_cell hb 28).trans e4
  go_simp
set_option maxRecDepth 100000 in
theorem st40o24_ {e : Operand → Value} {o : Oper} {p v : Operand} {W : World} {g n : Nat} {x0 : Int} {x1 : Int} {x2 : Int} {x3 : Int} {x4 : Bool} (ho : o.op = .store 40 p v) (hp : e p = .pointer (some ⟨g,24,none⟩)) (hv : e v = .agg #[.int .i64 x0,.int .i64 x1,.int .i64 x2,.int .i64 x3,.bool x4]) (hb : Blk W g n) (hn : 29 ≤ n) : (execOp e o).run Try.prog W = .ok .skip (((((W.setCell ⟨g,24,none⟩ (.int .i64 x0)).setCell ⟨g,25,none⟩ (.int .i64 x1)).setCell ⟨g,26,none⟩ (.int .i64 x2)).setCell ⟨g,27,none⟩ (.int .i64 x3)).setCell ⟨g,28,none⟩ (.bool x4)) := by
  have hu := Try.underlying40
  obtain ⟨o1, o2, o3, o4, o5, o6⟩ := o
  dsimp only at ho
  subst ho
  go_simp
  change Result.andThen ((stored Try.prog W ⟨g,24,none⟩ (.int .i64 x0) .plain).andThen fun _ w => (stored Try.prog w ⟨g,25,none⟩ (.int .i64 x1) .plain).andThen fun _ w => (stored Try.prog w ⟨g,26,none⟩ (.int .i64 x2) .plain).andThen fun _ w => (stored Try.prog w ⟨g,27,none⟩ (.int .i64 x3) .plain).andThen fun _ w => stored Try.prog w ⟨g,28,none⟩ (.bool x4) .plain) (fun _ w => Result.ok Next.skip w) = _
  refine ao_ (a := ()) (w := (((((W.setCell ⟨g,24,none⟩ (.int .i64 x0)).setCell ⟨g,25,none⟩ (.int .i64 x1)).setCell ⟨g,26,none⟩ (.int .i64 x2)).setCell ⟨g,27,none⟩ (.int .i64 x3)).setCell ⟨g,28,none⟩ (.bool x4))) ?_ rfl
  have h := hb
  refine (lf_ h (show 24 < n by omega)).trans ?_
  replace h := h.put (b := g) (i := 24) (v := .int .i64 x0)
  refine (lf_ h (show 25 < n by omega)).trans ?_
  replace h := h.put (b := g) (i := 25) (v := .int .i64 x1)
  refine (lf_ h (show 26 < n by omega)).trans ?_
  replace h := h.put (b := g) (i := 26) (v := .int .i64 x2)
  refine (lf_ h (show 27 < n by omega)).trans ?_
  replace h := h.put (b := g) (i := 27) (v := .int .i64 x3)
  exact lf0_ h (show 28 < n by omega)
theorem sa40o24_ {ops : Array Oper} {rest : List Oper} {o : Oper} {a : Act} {Q : Exit → Act → World → Prop} {W w1 : World} {p : Tmp} {v : Operand} (h : wpList Try.prog ops Q rest a w1) (_ho : o.op = .store 40 (.tmp p) v := by with_reducible rfl) (hgd : Region.wanted o (yielded ops a.tmps) = true := by rfl) (hN : o.dst = none := by rfl) (hrun : (execOp a.eval o).run Try.prog W = .ok .skip w1 := by exact st40o24_ rfl rfl rfl (bB_ (Aside0.out (by assumption))) (of_decide_eq_true (by kernel_rfl))) : wpList Try.prog ops Q (o :: rest) a W := stw_ hgd hN hrun h
theorem la40o24_ {ops : Array Oper} {rest : List Oper} {o : Oper} {a : Act} {Q : Exit → Act → World → Prop} {W : World} {p : Tmp} {x : Value} (h : wpList Try.prog ops Q rest (a.put o.dst x) W) (_ho : o.op = .load 40 (.tmp p) := by with_reducible rfl) (hgd : Region.wanted o (yielded ops a.tmps) = true := by rfl) (hrun : (execOp a.eval o).run Try.prog W = .ok (.value x) W := by exact ld40o24_ rfl rfl (pL_ (Aside0.out (by assumption))) (by rfl) (by rfl) (by rfl) (by rfl) (by rfl)) : wpList Try.prog ops Q (o :: rest) a W := ldw_ hgd hrun h
theorem lr3_ {e : Operand → Value} {o : Oper} {p : Operand} {W : World} {g i : Nat} {tt : TypeId} {cs : Array Value} {v : Value} (ho : o.op = .load 3 p) (hp : e p = .pointer (some ⟨g,i,none⟩)) (hb : W.heap[g]? = some (.cells cs tt (0,0))) (hv : cs[i]? = some v) : (execOp e o).run Try.prog W = .ok (.value v) W := by
  have hu := Try.underlying3
  obtain ⟨o1, o2, o3, o4, o5, o6⟩ := o
  dsimp only at ho
  subst ho
  have hc := (blk_cell hb i).trans hv
  go_simp
theorem sr3_ {e : Operand → Value} {o : Oper} {p v : Operand} {W : World} {g i n : Nat} {x : Int} (ho : o.op = .store 3 p v) (hp : e p = .pointer (some ⟨g,i,none⟩)) (hv : e v = .int .i64 x) (hb : Blk W g n) (hn : i < n) : (execOp e o).run Try.prog W = .ok .skip (W.setCell ⟨g,i,none⟩ (.int .i64 x)) := by
  have hu := Try.underlying3
  obtain ⟨o1, o2, o3, o4, o5, o6⟩ := o
  dsimp only at ho
  subst ho
  go_simp
  change Result.andThen (stored Try.prog W ⟨g,i,none⟩ (.int .i64 x) .plain) (fun _ w => Result.ok Next.skip w) = _
  exact ao_ (lf0_ hb hn) rfl
theorem lc3_ {ops : Array Oper} {rest : List Oper} {o : Oper} {a : Act} {Q : Exit → Act → World → Prop} {W : World} {p : Tmp} {x : Value} (h : wpList Try.prog ops Q rest (a.put o.dst x) W) (_ho : o.op = .load 3 (.tmp p) := by with_reducible rfl) (hgd : Region.wanted o (yielded ops a.tmps) = true := by rfl) (hrun : (execOp a.eval o).run Try.prog W = .ok (.value x) W := by exact lr3_ rfl rfl (pL_ (Aside0.out (by assumption))) (by rfl)) : wpList Try.prog ops Q (o :: rest) a W := ldw_ hgd hrun h
theorem sc3_ {ops : Array Oper} {rest : List Oper} {o : Oper} {a : Act} {Q : Exit → Act → World → Prop} {W w1 : World} {p : Tmp} {v : Operand} (h : wpList Try.prog ops Q rest a w1) (_ho : o.op = .store 3 (.tmp p) v := by with_reducible rfl) (hgd : Region.wanted o (yielded ops a.tmps) = true := by rfl) (hN : o.dst = none := by rfl) (hrun : (execOp a.eval o).run Try.prog W = .ok .skip w1 := by exact sr3_ rfl rfl rfl (bB_ (Aside0.out (by assumption))) (of_decide_eq_true (by kernel_rfl))) : wpList Try.prog ops Q (o :: rest) a W := stw_ hgd hN hrun h
theorem lr30_ {e : Operand → Value} {o : Oper} {p : Operand} {W : World} {g i : Nat} {tt : TypeId} {cs : Array Value} {v : Value} (ho : o.op = .load 30 p) (hp : e p = .pointer (some ⟨g,i,none⟩)) (hb : W.heap[g]? = some (.cells cs tt (0,0))) (hv : cs[i]? = some v) : (execOp e o).run Try.prog W = .ok (.value v) W := by
  have hu := Try.underlying30
  obtain ⟨o1, o2, o3, o4, o5, o6⟩ := o
  dsimp only at ho
  subst ho
  have hc := (blk_cell hb i).trans hv
  go_simp
theorem sr30_ {e : Operand → Value} {o : Oper} {p v : Operand} {W : World} {g i n : Nat} {A : Option Addr} {m c : Nat} (ho : o.op = .store 30 p v) (hp : e p = .pointer (some ⟨g,i,none⟩)) (hv : e v = .slice A m c) (hb : Blk W g n) (hn : i < n) : (execOp e o).run Try.prog W = .ok .skip (W.setCell ⟨g,i,none⟩ (.slice A m c)) := by
  have hu := Try.underlying30
  obtain ⟨o1, o2, o3, o4, o5, o6⟩ := o
  dsimp only at ho
  subst ho
  go_simp
  change Result.andThen (stored Try.prog W ⟨g,i,none⟩ (.slice A m c) .plain) (fun _ w => Result.ok Next.skip w) = _
  exact ao_ (lf0_ hb hn) rfl
theorem lc30_ {ops : Array Oper} {rest : List Oper} {o : Oper} {a : Act} {Q : Exit → Act → World → Prop} {W : World} {p : Tmp} {x : Value} (h : wpList Try.prog ops Q rest (a.put o.dst x) W) (_ho : o.op = .load 30 (.tmp p) := by with_reducible rfl) (hgd : Region.wanted o (yielded ops a.tmps) = true := by rfl) (hrun : (execOp a.eval o).run Try.prog W = .ok (.value x) W := by exact lr30_ rfl rfl (pL_ (Aside0.out (by assumption))) (by rfl)) : wpList Try.prog ops Q (o :: rest) a W := ldw_ hgd hrun h
theorem sc30_ {ops : Array Oper} {rest : List Oper} {o : Oper} {a : Act} {Q : Exit → Act → World → Prop} {W w1 : World} {p : Tmp} {v : Operand} (h : wpList Try.prog ops Q rest a w1) (_ho : o.op = .store 30 (.tmp p) v := by with_reducible rfl) (hgd : Region.wanted o (yielded ops a.tmps) = true := by rfl) (hN : o.dst = none := by rfl) (hrun : (execOp a.eval o).run Try.prog W = .ok .skip w1 := by exact sr30_ rfl rfl rfl (bB_ (Aside0.out (by assumption))) (of_decide_eq_true (by kernel_rfl))) : wpList Try.prog ops Q (o :: rest) a W := stw_ hgd hN hrun h
theorem lr41_ {e : Operand → Value} {o : Oper} {p : Operand} {W : World} {g i : Nat} {tt : TypeId} {cs : Array Value} {v : Value} (ho : o.op = .load 41 p) (hp : e p = .pointer (some ⟨g,i,none⟩)) (hb : W.heap[g]? = some (.cells cs tt (0,0))) (hv : cs[i]? = some v) : (execOp e o).run Try.prog W = .ok (.value v) W := by
  have hu := Try.underlying41
  obtain ⟨o1, o2, o3, o4, o5, o6⟩ := o
  dsimp only at ho
  subst ho
  have hc := (blk_cell hb i).trans hv
  go_simp
theorem sr41_ {e : Operand → Value} {o : Oper} {p v : Operand} {W : World} {g i n : Nat} {A : Option Addr} {m c : Nat} (ho : o.op = .store 41 p v) (hp : e p = .pointer (some ⟨g,i,none⟩)) (hv : e v = .slice A m c) (hb : Blk W g n) (hn : i < n) : (execOp e o).run Try.prog W = .ok .skip (W.setCell ⟨g,i,none⟩ (.slice A m c)) := by
  have hu := Try.underlying41
  obtain ⟨o1, o2, o3, o4, o5, o6⟩ := o
  dsimp only at ho
  subst ho
  go_simp
  change Result.andThen (stored Try.prog W ⟨g,i,none⟩ (.slice A m c) .plain) (fun _ w => Result.ok Next.skip w) = _
  exact ao_ (lf0_ hb hn) rfl
theorem lc41_ {ops : Array Oper} {rest : List Oper} {o : Oper} {a : Act} {Q : Exit → Act → World → Prop} {W : World} {p : Tmp} {x : Value} (h : wpList Try.prog ops Q rest (a.put o.dst x) W) (_ho : o.op = .load 41 (.tmp p) := by with_reducible rfl) (hgd : Region.wanted o (yielded ops a.tmps) = true := by rfl) (hrun : (execOp a.eval o).run Try.prog W = .ok (.value x) W := by exact lr41_ rfl rfl (pL_ (Aside0.out (by assumption))) (by rfl)) : wpList Try.prog ops Q (o :: rest) a W := ldw_ hgd hrun h
theorem sc41_ {ops : Array Oper} {rest : List Oper} {o : Oper} {a : Act} {Q : Exit → Act → World → Prop} {W w1 : World} {p : Tmp} {v : Operand} (h : wpList Try.prog ops Q rest a w1) (_ho : o.op = .store 41 (.tmp p) v := by with_reducible rfl) (hgd : Region.wanted o (yielded ops a.tmps) = true := by rfl) (hN : o.dst = none := by rfl) (hrun : (execOp a.eval o).run Try.prog W = .ok .skip w1 := by exact sr41_ rfl rfl rfl (bB_ (Aside0.out (by assumption))) (of_decide_eq_true (by kernel_rfl))) : wpList Try.prog ops Q (o :: rest) a W := stw_ hgd hN hrun h
set_option maxRecDepth 100000 in
theorem bd65_0 {e : Operand → Value} {o : Oper} {W : World} {x0 : Int} (ho : o.op = .build 65 #[(0,.tmp 49)]) (h0 : e (.tmp 49) = .int .i64 x0) : (execOp e o).run Try.prog W = .ok (.value (.agg #[.int .i64 x0,.int .i64 0,.int .i64 0,.int .i64 0,.int .i64 0,.int .i64 0,.int .i64 0,.int .i64 0,.int .i64 0,.int .i64 0,.int .i64 0,.int .i64 0,.int .i64 0,.int .i64 0,.int .i64 0,.int .i64 0,.int .i64 0])) W := by
  obtain ⟨o1, o2, o3, o4, o5, o6⟩ := o
  dsimp only at ho
  subst ho
  simp only [execOp, List.map_toArray, List.map_cons, List.map_nil, h0]
  kernel_rfl
theorem ba65_0 {ops : Array Oper} {rest : List Oper} {o : Oper} {a : Act} {Q : Exit → Act → World → Prop} {W : World} {x : Value} (h : wpList Try.prog ops Q rest (a.put o.dst x) W) (_ho : o.op = .build 65 #[(0,.tmp 49)] := by with_reducible rfl) (hgd : Region.wanted o (yielded ops a.tmps) = true := by rfl) (hrun : (execOp a.eval o).run Try.prog W = .ok (.value x) W := by exact bd65_0 rfl rfl) : wpList Try.prog ops Q (o :: rest) a W := ldw_ hgd hrun h
set_option maxRecDepth 100000 in
theorem bd65_1 {e : Operand → Value} {o : Oper} {W : World} {x0 : Int} (ho : o.op = .build 65 #[(0,.tmp 62)]) (h0 : e (.tmp 62) = .int .i64 x0) : (execOp e o).run Try.prog W = .ok (.value (.agg #[.int .i64 x0,.int .i64 0,.int .i64 0,.int .i64 0,.int .i64 0,.int .i64 0,.int .i64 0,.int .i64 0,.int .i64 0,.int .i64 0,.int .i64 0,.int .i64 0,.int .i64 0,.int .i64 0,.int .i64 0,.int .i64 0,.int .i64 0])) W := by
  obtain ⟨o1, o2, o3, o4, o5, o6⟩ := o
  dsimp only at ho
  subst ho
  simp only [execOp, List.map_toArray, List.map_cons, List.map_nil, h0]
  kernel_rfl
theorem ba65_1 {ops : Array Oper} {rest : List Oper} {o : Oper} {a : Act} {Q : Exit → Act → World → Prop} {W : World} {x : Value} (h : wpList Try.prog ops Q rest (a.put o.dst x) W) (_ho : o.op = .build 65 #[(0,.tmp 62)] := by with_reducible rfl) (hgd : Region.wanted o (yielded ops a.tmps) = true := by rfl) (hrun : (execOp a.eval o).run Try.prog W = .ok (.value x) W := by exact bd65_1 rfl rfl) : wpList Try.prog ops Q (o :: rest) a W := ldw_ hgd hrun h
set_option maxRecDepth 100000 in
theorem bd65_2 {e : Operand → Value} {o : Oper} {W : World} {x0 : Int} (ho : o.op = .build 65 #[(0,.tmp 75)]) (h0 : e (.tmp 75) = .int .i64 x0) : (execOp e o).run Try.prog W = .ok (.value (.agg #[.int .i64 x0,.int .i64 0,.int .i64 0,.int .i64 0,.int .i64 0,.int .i64 0,.int .i64 0,.int .i64 0,.int .i64 0,.int .i64 0,.int .i64 0,.int .i64 0,.int .i64 0,.int .i64 0,.int .i64 0,.int .i64 0,.int .i64 0])) W := by
  obtain ⟨o1, o2, o3, o4, o5, o6⟩ := o
  dsimp only at ho
  subst ho
  simp only [execOp, List.map_toArray, List.map_cons, List.map_nil, h0]
  kernel_rfl
theorem ba65_2 {ops : Array Oper} {rest : List Oper} {o : Oper} {a : Act} {Q : Exit → Act → World → Prop} {W : World} {x : Value} (h : wpList Try.prog ops Q rest (a.put o.dst x) W) (_ho : o.op = .build 65 #[(0,.tmp 75)] := by with_reducible rfl) (hgd : Region.wanted o (yielded ops a.tmps) = true := by rfl) (hrun : (execOp a.eval o).run Try.prog W = .ok (.value x) W := by exact bd65_2 rfl rfl) : wpList Try.prog ops Q (o :: rest) a W := ldw_ hgd hrun h
set_option maxRecDepth 100000 in
theorem bd65_3 {e : Operand → Value} {o : Oper} {W : World} {x0 : Int} (ho : o.op = .build 65 #[(0,.tmp 84)]) (h0 : e (.tmp 84) = .int .i64 x0) : (execOp e o).run Try.prog W = .ok (.value (.agg #[.int .i64 x0,.int .i64 0,.int .i64 0,.int .i64 0,.int .i64 0,.int .i64 0,.int .i64 0,.int .i64 0,.int .i64 0,.int .i64 0,.int .i64 0,.int .i64 0,.int .i64 0,.int .i64 0,.int .i64 0,.int .i64 0,.int .i64 0])) W := by
  obtain ⟨o1, o2, o3, o4, o5, o6⟩ := o
  dsimp only at ho
  subst ho
  simp only [execOp, List.map_toArray, List.map_cons, List.map_nil, h0]
  kernel_rfl
theorem ba65_3 {ops : Array Oper} {rest : List Oper} {o : Oper} {a : Act} {Q : Exit → Act → World → Prop} {W : World} {x : Value} (h : wpList Try.prog ops Q rest (a.put o.dst x) W) (_ho : o.op = .build 65 #[(0,.tmp 84)] := by with_reducible rfl) (hgd : Region.wanted o (yielded ops a.tmps) = true := by rfl) (hrun : (execOp a.eval o).run Try.prog W = .ok (.value x) W := by exact bd65_3 rfl rfl) : wpList Try.prog ops Q (o :: rest) a W := ldw_ hgd hrun h
theorem lv32_ {e : Operand → Value} {o : Oper} {p : Operand} {W : World} {g : Nat} {v0 v1 v2 v3 v4 v5 v6 v7 v8 v9 v10 v11 v12 v13 v14 v15 v16 v17 v18 v19 v20 v21 v22 v23 v24 v25 v26 v27 v28 v29 : Value} (ho : o.op = .load 32 p) (hp : e p = .pointer (some ⟨g,0,none⟩)) (h : Bv W g #[v0,v1,v2,v3,v4,v5,v6,v7,v8,v9,v10,v11,v12,v13,v14,v15,v16,v17,v18,v19,v20,v21,v22,v23,v24,v25,v26,v27,v28,v29]) : (execOp e o).run Try.prog W = .ok (.value (.agg #[v0,v1,v2,v3,v4,v5,v6,v7,v8,v9,v10,v11,v12,v13,v14,v15,v16,v17,v18,v19,v20,v21,v22,v23,v24,v25,v26,v27,v28,v29])) W := by
  obtain ⟨tt, h⟩ := h
  exact ld32_ ho hp h
theorem lv43_ {e : Operand → Value} {o : Oper} {p : Operand} {W : World} {g : Nat} {v0 v1 v2 v3 v4 v5 v6 v7 v8 v9 v10 v11 v12 v13 v14 v15 v16 v17 v18 v19 v20 v21 v22 v23 v24 v25 v26 v27 v28 v29 : Value} (ho : o.op = .load 43 p) (hp : e p = .pointer (some ⟨g,0,none⟩)) (h : Bv W g #[v0,v1,v2,v3,v4,v5,v6,v7,v8,v9,v10,v11,v12,v13,v14,v15,v16,v17,v18,v19,v20,v21,v22,v23,v24,v25,v26,v27,v28,v29]) : (execOp e o).run Try.prog W = .ok (.value (.agg #[v0,v1,v2,v3,v4,v5,v6,v7,v8,v9,v10,v11,v12,v13,v14,v15,v16,v17,v18,v19,v20,v21,v22,v23,v24,v25,v26,v27,v28,v29])) W := by
  obtain ⟨tt, h⟩ := h
  exact ld43_ ho hp h
end Go.Proofs.Ytjhgkonacdimfab.ZFnExactCmdOk
