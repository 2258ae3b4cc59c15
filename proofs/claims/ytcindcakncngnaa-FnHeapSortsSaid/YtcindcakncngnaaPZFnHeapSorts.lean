-- by a program of this session's: scripts that stand several times in the printed texts
import Derived.Test.YtcindcakncngnaaProg
import Derived.Below
import Derived.Deep.Draws
import Derived.Deep.AppendLies
import Derived.Maps.AppendAt
import Derived.OwnWalk
import Derived.Laws.BytesArg
import Derived.Laws.MakeOwn
import Derived.Laws.OwnMore
import Derived.Deep.OwnRows
import Derived.Tactics
import Derived.Lib.ConvBytes
import Derived.Laws.Slices
import Derived.WalkKit
import Derived.KernelRfl
import Derived.RowKit3
import Derived.Deep.LoopGhost
import Derived.Deep.QuietTactic
import Derived.BigQuiet
import Derived.WideLaws
import Derived.Deep.DeepCutAuto
import Derived.Deep.CutBlock
import Derived.Deep.RegionHeld3
import Derived.Laws.Rows
import Derived.Lib.AppendStr
import Derived.ArgAppend
import Derived.Laws.IdiomCopy
import Derived.OrdersHeld
import Derived.Laws.BitsLemmas
import Derived.RowKit
import Derived.Test.YtcindcakncngnaaVWords
import Derived.Test.YtcindcakncngnaaVOpen
import Derived.Test.YtcindcakncngnaaVMap
import Derived.Test.YtcindcakncngnaaWWords
import Derived.Test.YtcindcakncngnaaWLast
import Derived.Test.YtcindcakncngnaaWTab
import Derived.Test.YtcindcakncngnaaWFour
import Derived.Test.YtcindcakncngnaaWQPut
import Derived.Test.YtcindcakncngnaaWApart
import Derived.Test.YtcindcakncngnaaWArr
import Derived.Test.YtcindcakncngnaaWZeros
import Derived.Test.YtcindcakncngnaaWFoot
import Derived.Test.YtcindcakncngnaaWKept
import Derived.Test.YtcindcakncngnaaWShare
import Derived.Test.YtcindcakncngnaaWN
import Derived.Test.YtcindcakncngnaaWFootNe
import Derived.Test.YtcindcakncngnaaWAt
import Derived.Test.YtcindcakncngnaaWEqStruct
import Derived.Test.YtcindcakncngnaaWRepsOne
import Derived.Test.YtcindcakncngnaaWInv
import Derived.Test.YtcindcakncngnaaWInvWords
import Derived.Test.YtcindcakncngnaaWGuard
import Derived.Test.YtcindcakncngnaaWNEv
import Derived.Test.YtcindcakncngnaaWMore
namespace Go.Proofs.Ytcindcakncngnaa.ZFnHeapSorts
open Go.RowKit Go.Proofs.YtcindcakncngnaaW.PrintWords Go.Proofs.YtcindcakncngnaaW.PrintLast Go.Proofs.YtcindcakncngnaaW.PrintMore Go.Proofs.YtcindcakncngnaaV
theorem Z0 {P : Prop} (h : P := by repeat (first | (with_reducible first | exact HK.out | apply Kept.alloc | apply Kept.drewN | apply Kept.drew | refine Kept.setCell ?_ (.inr Mb.out) _ | refine Kept.setCell ?_ (.inr Xb.out) _ | refine Kept.setCell ?_ (.inr Jc.out) _) | exact HK.out)) : P := h
theorem Z1 {P : Prop} (h : P := by exact pP_ Ma.out) : P := h
theorem Z2 {P : Prop} (h : P := by first | exact HK.out.1 | exact (show Kept w _ (fun k_ => P0_0_ k_) from by repeat (first | (with_reducible first | exact HK.out | apply Kept.alloc | apply Kept.drewN | apply Kept.drew) | exact HK.out)).1) : P := h
theorem Z3 {P : Prop} (h : P := by first | exact HK.out.1 | exact (show Kept w _ (fun k_ => P0_ k_) from by repeat (first | (with_reducible first | exact HK.out | apply Kept.alloc | apply Kept.drewN | apply Kept.drew) | exact HK.out)).1) : P := h
theorem Z4 {P : Prop} (h : P := by repeat (first | (with_reducible exact HR316.out) | (with_reducible refine Kd.C_alloc ?_ _) | (with_reducible refine Kd.C_drewN ?_ _) | (with_reducible refine Kd.C_drew ?_) | exact HR316.out)) : P := h
theorem Z5 {P : Prop} (h : P := by repeat (first | (with_reducible exact HR340.out) | (with_reducible refine Kd.C_alloc ?_ _) | (with_reducible refine Kd.C_drewN ?_ _) | (with_reducible refine Kd.C_drew ?_) | exact HR340.out)) : P := h
theorem Z6 {P : Prop} (h : P := by exact pP_ Ka.out) : P := h
theorem Z7 {P : Prop} (h : P := by repeat (first | (with_reducible first | exact HK.out | apply Kept.alloc | apply Kept.drewN | apply Kept.drew | refine Kept.setCell ?_ (.inr Xa.out) _) | exact HK.out)) : P := h
theorem Z8 {P : Prop} (h : P := by (try simp only [List.map_toArray, List.map_cons, List.map_nil]); first | done | (simp only [hji8]; rfl) | rfl | (simp only [List.length_drop, List.length_take]; rfl)) : P := h
theorem Z9 {P : Prop} (h : P := by (try simp only [List.map_toArray, List.map_cons, List.map_nil]); first | done | rfl | (simp only [List.length_drop, List.length_take]; rfl)) : P := h
theorem Z10 {P : Prop} (h : P := by repeat (first | (with_reducible first | exact HBW.out | apply below_alloc | apply pw_below_drewN | apply below_drew1) | exact HBW.out)) : P := h
theorem Z11 {P : Prop} (h : P := by repeat (first | (with_reducible first | exact HK.out | apply Kept.alloc | apply Kept.drewN | apply Kept.drew) | exact HK.out)) : P := h
theorem Z12 {P : Prop} (h : P := by exact pP_ Ma.out) : P := h
theorem Z13 {P : Prop} (h : P := by exact pP_ Ja.out) : P := h
theorem Z14 {P : Prop} (h : P := by exact pP_ Ka.out) : P := h
theorem Z15 {P : Prop} (h : P := by simp only [putAll, Act.put, List.setIfInBounds_toArray, List.set_cons_zero, List.set_cons_succ]) : P := h
theorem Z16 {P : Prop} (h : P := by have := World.block_lt_of_cell? _ _ hw411_0; first | rwa [add_block] at this | exact this) : P := h
theorem Z17 {P : Prop} (h : P := by have := World.block_lt_of_cell? _ _ hw411_1; first | rwa [add_block] at this | exact this) : P := h
theorem Z18 {P : Prop} (h : P := by first | exact (pR_ Ka.out) | (simp only [hl365000_1]; exact (pR_ Ka.out))) : P := h
theorem Z19 {P : Prop} (h : P := by first | exact (pR_ Ka.out) | (simp only [hl383000_1]; exact (pR_ Ka.out))) : P := h
theorem Z20 {P : Prop} (h : P := by rintro w' ⟨s0, s1, s2, s3, s4⟩; go_simp; with_reducible rfl) : P := h
theorem Z21 {P : Prop} (h : P := by rintro w' ⟨s0, s1, s2⟩; go_simp; with_reducible rfl) : P := h
theorem Z22 {P : Prop} (h : P := by first | (with_reducible assumption) | assumption) : P := h
theorem Z23 {P : Prop} (h : P := by first | rfl | (simp; done) | (simp [*]; done)) : P := h
theorem Z24 {P : Prop} (h : P := by intro e_; injection e_ with _ e2_ _; omega) : P := h
theorem Z25 {P : Prop} (h : P := by intro w' s0; go_simp; with_reducible rfl) : P := h
theorem Z26 {P : Prop} (h : P := by rw [hr_.out]; decide) : P := h
theorem Z27 {P : Prop} (h : P := by first | exact Nat.ne_of_lt (Nat.lt_of_lt_of_le Z16 Ua.out) | (rw [add_block]; exact Nat.ne_of_lt (Nat.lt_of_lt_of_le Z16 Ua.out)) | (show (Addr.add _ _).block ≠ _; rw [add_block]; exact Nat.ne_of_lt (Nat.lt_of_lt_of_le Z16 Ua.out)) | (dsimp only; exact Nat.ne_of_lt (Nat.lt_of_lt_of_le Z16 Ua.out))) : P := h
theorem Z28 {P : Prop} (h : P := by first | exact Nat.ne_of_lt (Nat.lt_of_lt_of_le Z17 Ua.out) | (rw [add_block]; exact Nat.ne_of_lt (Nat.lt_of_lt_of_le Z17 Ua.out)) | (show (Addr.add _ _).block ≠ _; rw [add_block]; exact Nat.ne_of_lt (Nat.lt_of_lt_of_le Z17 Ua.out)) | (dsimp only; exact Nat.ne_of_lt (Nat.lt_of_lt_of_le Z17 Ua.out))) : P := h
theorem Z29 {P : Prop} (h : P := by have h_ := Kd.R_ne Ma.out Ka.out (by decide); intro e_; exact h_ (by rw [e_]; rfl)) : P := h
theorem Z30 {P : Prop} (h : P := by have h_ := Kd.R_ne Ma.out Ja.out (by decide); intro e_; exact h_ (by rw [e_]; rfl)) : P := h
theorem Z31 {P : Prop} (h : P := by have h_ := Kd.R_ne Ka.out Ma.out (by decide); intro e_; exact h_ (by rw [e_]; rfl)) : P := h
end Go.Proofs.Ytcindcakncngnaa.ZFnHeapSorts
