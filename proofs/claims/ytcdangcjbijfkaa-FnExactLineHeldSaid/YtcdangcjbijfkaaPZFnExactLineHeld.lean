-- by a program of this session's: scripts that stand several times in the printed texts
import Derived.Test.YtcdangcjbijfkaaProg
import Derived.Below
import Derived.Deep.Draws
import Derived.Deep.AppendLies
import Derived.Maps.AppendAt
import Derived.OwnWalk
import Derived.Laws.BytesArg
import Derived.Laws.MakeOwn
import Derived.Laws.OwnMore
import Derived.Deep.OwnRows
import Derived.Tactics
import Derived.Lib.ConvBytes
import Derived.Laws.Slices
import Derived.WalkKit
import Derived.KernelRfl
import Derived.RowKit3
import Derived.Deep.LoopGhost
import Derived.Deep.QuietTactic
import Derived.BigQuiet
import Derived.WideLaws
import Derived.Deep.DeepCutAuto
import Derived.Deep.CutBlock
import Derived.Deep.RegionHeld3
import Derived.Laws.Rows
import Derived.Lib.AppendStr
import Derived.ArgAppend
import Derived.Laws.IdiomCopy
import Derived.OrdersHeld
import Derived.Laws.BitsLemmas
import Derived.RowKit
import Derived.Test.YtcdangcjbijfkaaVWords
import Derived.Test.YtcdangcjbijfkaaVOpen
import Derived.Test.YtcdangcjbijfkaaVMap
import Derived.Test.YtcdangcjbijfkaaWWords
import Derived.Test.YtcdangcjbijfkaaWLast
import Derived.Test.YtcdangcjbijfkaaWTab
import Derived.Test.YtcdangcjbijfkaaWFour
import Derived.Test.YtcdangcjbijfkaaWQPut
import Derived.Test.YtcdangcjbijfkaaWApart
import Derived.Test.YtcdangcjbijfkaaWArr
import Derived.Test.YtcdangcjbijfkaaWZeros
import Derived.Test.YtcdangcjbijfkaaWFoot
import Derived.Test.YtcdangcjbijfkaaWKept
import Derived.Test.YtcdangcjbijfkaaWShare
import Derived.Test.YtcdangcjbijfkaaWN
import Derived.Test.YtcdangcjbijfkaaWFootNe
import Derived.Test.YtcdangcjbijfkaaWAt
import Derived.Test.YtcdangcjbijfkaaWEqStruct
import Derived.Test.YtcdangcjbijfkaaWRepsOne
import Derived.Test.YtcdangcjbijfkaaWInv
import Derived.Test.YtcdangcjbijfkaaWInvWords
import Derived.Test.YtcdangcjbijfkaaWGuard
import Derived.Test.YtcdangcjbijfkaaWNEv
import Derived.Test.YtcdangcjbijfkaaWMore
namespace Go.Proofs.Ytcdangcjbijfkaa.ZFnExactLineHeld
open Go.RowKit Go.Proofs.YtcdangcjbijfkaaW.PrintWords Go.Proofs.YtcdangcjbijfkaaW.PrintLast Go.Proofs.YtcdangcjbijfkaaW.PrintMore Go.Proofs.YtcdangcjbijfkaaV
theorem Z0 {P : Prop} (h : P := by (with_reducible repeat (first | refine blk_drewN ?_ _ | refine blk_drew ?_ | refine blk_alloc ?_ _)); refine blk_far ?_ NB151_153.out _; (with_reducible repeat (first | refine blk_drewN ?_ _ | refine blk_drew ?_ | refine blk_alloc ?_ _)); exact BK151.out) : P := h
theorem Z1 {P : Prop} (h : P := by (with_reducible repeat (first | refine blk_drewN ?_ _ | refine blk_drew ?_ | refine blk_alloc ?_ _)); refine blk_far ?_ NB152_153.out _; (with_reducible repeat (first | refine blk_drewN ?_ _ | refine blk_drew ?_ | refine blk_alloc ?_ _)); exact BK152.out) : P := h
theorem Z2 {P : Prop} (h : P := by (try simp only [List.map_toArray, List.map_cons, List.map_nil]); first | done | rfl | (simp only [List.length_drop, List.length_take]; rfl)) : P := h
theorem Z3 {P : Prop} (h : P := by rintro w' ⟨s0, s1, s2, s3, s4, s5, s6, s7⟩; go_simp; with_reducible rfl) : P := h
theorem Z4 {P : Prop} (h : P := by rintro w' ⟨s0, s1, s2, s3⟩; go_simp; with_reducible rfl) : P := h
theorem Z5 {P : Prop} (h : P := by first | (with_reducible assumption) | assumption) : P := h
theorem Z6 {P : Prop} (h : P := by first | rfl | (simp; done) | (simp [*]; done)) : P := h
end Go.Proofs.Ytcdangcjbijfkaa.ZFnExactLineHeld
