-- by a program of this session's: scripts that stand several times in the printed texts
import Derived.Test.YtjeigejjndfkjaaProg
import Derived.Below
import Derived.Deep.Draws
import Derived.Deep.AppendLies
import Derived.Maps.AppendAt
import Derived.OwnWalk
import Derived.Laws.BytesArg
import Derived.Laws.MakeOwn
import Derived.Laws.OwnMore
import Derived.Deep.OwnRows
import Derived.Tactics
import Derived.Lib.ConvBytes
import Derived.Laws.Slices
import Derived.WalkKit
import Derived.KernelRfl
import Derived.RowKit3
import Derived.Deep.LoopGhost
import Derived.Deep.QuietTactic
import Derived.BigQuiet
import Derived.WideLaws
import Derived.Deep.DeepCutAuto
import Derived.Deep.CutBlock
import Derived.Deep.RegionHeld3
import Derived.Laws.Rows
import Derived.Lib.AppendStr
import Derived.ArgAppend
import Derived.Laws.IdiomCopy
import Derived.OrdersHeld
import Derived.Laws.BitsLemmas
import Derived.RowKit
import Derived.Test.YtjeigejjndfkjaaVWords
import Derived.Test.YtjeigejjndfkjaaVOpen
import Derived.Test.YtjeigejjndfkjaaVMap
import Derived.Test.YtjeigejjndfkjaaWWords
import Derived.Test.YtjeigejjndfkjaaWLast
import Derived.Test.YtjeigejjndfkjaaWTab
import Derived.Test.YtjeigejjndfkjaaWFour
import Derived.Test.YtjeigejjndfkjaaWQPut
import Derived.Test.YtjeigejjndfkjaaWApart
import Derived.Test.YtjeigejjndfkjaaWArr
import Derived.Test.YtjeigejjndfkjaaWZeros
import Derived.Test.YtjeigejjndfkjaaWFoot
import Derived.Test.YtjeigejjndfkjaaWKept
import Derived.Test.YtjeigejjndfkjaaWShare
import Derived.Test.YtjeigejjndfkjaaWN
import Derived.Test.YtjeigejjndfkjaaWFootNe
import Derived.Test.YtjeigejjndfkjaaWAt
import Derived.Test.YtjeigejjndfkjaaWEqStruct
import Derived.Test.YtjeigejjndfkjaaWRepsOne
import Derived.Test.YtjeigejjndfkjaaWInv
import Derived.Test.YtjeigejjndfkjaaWInvWords
import Derived.Test.YtjeigejjndfkjaaWGuard
import Derived.Test.YtjeigejjndfkjaaWNEv
import Derived.Test.YtjeigejjndfkjaaWMore
namespace Go.Proofs.Ytjeigejjndfkjaa.ZFnExactTreeNew
open Go.RowKit Go.Proofs.YtjeigejjndfkjaaW.PrintWords Go.Proofs.YtjeigejjndfkjaaW.PrintLast Go.Proofs.YtjeigejjndfkjaaW.PrintMore Go.Proofs.YtjeigejjndfkjaaV
theorem Z0 {P : Prop} (h : P := by (try simp only [List.map_toArray, List.map_cons, List.map_nil]); first | done | (rw [show Oh.length = Jb.length from (Kd.R_reads' Xa.out).1.symm, show Uh.length = Kc.length from (Kd.S_reads' Mb.out).1.symm] <;> rfl) | rfl | (simp only [List.length_drop, List.length_take]; rfl)) : P := h
theorem Z1 {P : Prop} (h : P := by repeat (first | (with_reducible first | exact HK.out | apply Kept.alloc | apply Kept.drewN | apply Kept.drew | refine Kept.setCell ?_ (.inr GW161.out) _) | exact HK.out)) : P := h
theorem Z2 {P : Prop} (h : P := by (try simp only [List.map_toArray, List.map_cons, List.map_nil]); first | done | rfl | (simp only [List.length_drop, List.length_take]; rfl)) : P := h
theorem Z3 {P : Prop} (h : P := by repeat (first | (with_reducible first | exact HK.out | apply Kept.alloc | apply Kept.drewN | apply Kept.drew) | exact HK.out)) : P := h
theorem Z4 {P : Prop} (h : P := by rintro w' ⟨s0, s1, s2, s3, s4, s5, s6, s7, s8, s9, s10, s11⟩; go_simp; with_reducible rfl) : P := h
theorem Z5 {P : Prop} (h : P := by first | (with_reducible assumption) | assumption) : P := h
theorem Z6 {P : Prop} (h : P := by first | rfl | (simp; done) | (simp [*]; done)) : P := h
theorem Z7 {P : Prop} (h : P := by rw [hr_.out]; decide) : P := h
end Go.Proofs.Ytjeigejjndfkjaa.ZFnExactTreeNew
