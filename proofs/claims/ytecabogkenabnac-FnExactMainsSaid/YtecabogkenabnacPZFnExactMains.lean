-- by a program of this session's: scripts that stand several times in the printed texts
import Derived.Test.YtecabogkenabnacProg
import Derived.Below
import Derived.Deep.Draws
import Derived.Deep.AppendLies
import Derived.Maps.AppendAt
import Derived.OwnWalk
import Derived.Laws.BytesArg
import Derived.Laws.MakeOwn
import Derived.Laws.OwnMore
import Derived.Deep.OwnRows
import Derived.Tactics
import Derived.Lib.ConvBytes
import Derived.Laws.Slices
import Derived.WalkKit
import Derived.KernelRfl
import Derived.RowKit3
import Derived.Deep.LoopGhost
import Derived.Deep.QuietTactic
import Derived.BigQuiet
import Derived.WideLaws
import Derived.Deep.DeepCutAuto
import Derived.Deep.CutBlock
import Derived.Deep.RegionHeld3
import Derived.Laws.Rows
import Derived.Lib.AppendStr
import Derived.ArgAppend
import Derived.Laws.IdiomCopy
import Derived.OrdersHeld
import Derived.Laws.BitsLemmas
import Derived.RowKit
import Derived.Test.YtecabogkenabnacVWords
import Derived.Test.YtecabogkenabnacVOpen
import Derived.Test.YtecabogkenabnacVMap
import Derived.Test.YtecabogkenabnacWWords
import Derived.Test.YtecabogkenabnacWLast
import Derived.Test.YtecabogkenabnacWTab
import Derived.Test.YtecabogkenabnacWFour
import Derived.Test.YtecabogkenabnacWQPut
import Derived.Test.YtecabogkenabnacWApart
import Derived.Test.YtecabogkenabnacWArr
import Derived.Test.YtecabogkenabnacWZeros
import Derived.Test.YtecabogkenabnacWFoot
import Derived.Test.YtecabogkenabnacWKept
import Derived.Test.YtecabogkenabnacWShare
import Derived.Test.YtecabogkenabnacWN
import Derived.Test.YtecabogkenabnacWFootNe
import Derived.Test.YtecabogkenabnacWAt
import Derived.Test.YtecabogkenabnacWEqStruct
import Derived.Test.YtecabogkenabnacWRepsOne
import Derived.Test.YtecabogkenabnacWInv
import Derived.Test.YtecabogkenabnacWInvWords
import Derived.Test.YtecabogkenabnacWGuard
import Derived.Test.YtecabogkenabnacWNEv
import Derived.Test.YtecabogkenabnacWMore
namespace Go.Proofs.Ytecabogkenabnac.ZFnExactMains
open Go.RowKit Go.Proofs.YtecabogkenabnacW.PrintWords Go.Proofs.YtecabogkenabnacW.PrintLast Go.Proofs.YtecabogkenabnacW.PrintMore Go.Proofs.YtecabogkenabnacV
theorem Z0 {P : Prop} (h : P := by refine pk_ ?_; refine blk_put (cs := #[.int .i64 ((rd_T43 l0 x3_1).f0), .int .i64 ((rd_T43 l0 x3_1).f1), .int .i64 ((rd_T43 l0 x3_1).f2.f0), .int .i64 ((rd_T43 l0 x3_1).f2.f1), .int .i64 ((rd_T43 l0 x3_1).f2.f2), .slice none 0 0]) ?_ 5 _ rfl; refine pk_ ?_; refine blk_put (cs := #[.int .i64 ((rd_T43 l0 x3_1).f0), .int .i64 ((rd_T43 l0 x3_1).f1), .int .i64 ((rd_T43 l0 x3_1).f2.f0), .int .i64 ((rd_T43 l0 x3_1).f2.f1), .int .i64 0, .slice none 0 0]) ?_ 4 _ rfl; refine pk_ ?_; refine blk_put (cs := #[.int .i64 ((rd_T43 l0 x3_1).f0), .int .i64 ((rd_T43 l0 x3_1).f1), .int .i64 ((rd_T43 l0 x3_1).f2.f0), .int .i64 0, .int .i64 0, .slice none 0 0]) ?_ 3 _ rfl; refine pk_ ?_; refine blk_put (cs := #[.int .i64 ((rd_T43 l0 x3_1).f0), .int .i64 ((rd_T43 l0 x3_1).f1), .int .i64 0, .int .i64 0, .int .i64 0, .slice none 0 0]) ?_ 2 _ rfl; refine pk_ ?_; refine blk_put (cs := #[.int .i64 ((rd_T43 l0 x3_1).f0), .int .i64 0, .int .i64 0, .int .i64 0, .int .i64 0, .slice none 0 0]) ?_ 1 _ rfl; refine pk_ ?_; refine blk_put (cs := #[.int .i64 0, .int .i64 0, .int .i64 0, .int .i64 0, .int .i64 0, .slice none 0 0]) ?_ 0 _ rfl; refine pk_ ?_; exact Ja.out) : P := h
theorem Z1 {P : Prop} (h : P := by (try simp only [List.map_toArray, List.map_cons, List.map_nil]); first | done | (rw [show Kc.length = Ja.length from (Kd.R_reads' Oa.out).1.symm] <;> rfl) | rfl | (simp only [List.length_drop, List.length_take]; rfl)) : P := h
theorem Z2 {P : Prop} (h : P := by (try simp only [List.map_toArray, List.map_cons, List.map_nil]); first | done | rfl | (simp only [List.length_drop, List.length_take]; rfl)) : P := h
theorem Z3 {P : Prop} (h : P := by repeat (first | (with_reducible first | exact HK.out | apply Kept.alloc | apply Kept.drewN | apply Kept.drew) | exact HK.out)) : P := h
theorem Z4 {P : Prop} (h : P := by refine pk_ ?_; refine blk_put (cs := #[.int .i64 0]) ?_ 0 _ rfl; refine pk_ ?_; exact BK219.out) : P := h
theorem Z5 {P : Prop} (h : P := by rintro w' ⟨s0, s1, s2, s3, s4, s5, s6, s7, s8, s9, s10, s11, s12⟩; go_simp; with_reducible rfl) : P := h
theorem Z6 {P : Prop} (h : P := by rintro w' ⟨s0, s1, s2, s3, s4, s5, s6, s7, s8, s9, s10, s11⟩; go_simp; with_reducible rfl) : P := h
theorem Z7 {P : Prop} (h : P := by rintro w' ⟨s0, s1, s2, s3, s4, s5, s6⟩; go_simp; with_reducible rfl) : P := h
theorem Z8 {P : Prop} (h : P := by first | (with_reducible assumption) | assumption) : P := h
theorem Z9 {P : Prop} (h : P := by first | rfl | (simp; done) | (simp [*]; done)) : P := h
theorem Z10 {P : Prop} (h : P := by rw [hr_.out]; decide) : P := h
end Go.Proofs.Ytecabogkenabnac.ZFnExactMains
