-- by a program of this session's: scripts that stand several times in the printed texts
import Derived.Test.YtmloggnobgikdaaProg
import Derived.Below
import Derived.Deep.Draws
import Derived.Deep.AppendLies
import Derived.Maps.AppendAt
import Derived.OwnWalk
import Derived.Laws.BytesArg
import Derived.Laws.MakeOwn
import Derived.Laws.OwnMore
import Derived.Deep.OwnRows
import Derived.Tactics
import Derived.Lib.ConvBytes
import Derived.Laws.Slices
import Derived.WalkKit
import Derived.KernelRfl
import Derived.RowKit3
import Derived.Deep.LoopGhost
import Derived.Deep.QuietTactic
import Derived.BigQuiet
import Derived.WideLaws
import Derived.Deep.DeepCutAuto
import Derived.Deep.CutBlock
import Derived.Deep.RegionHeld3
import Derived.Laws.Rows
import Derived.Lib.AppendStr
import Derived.ArgAppend
import Derived.Laws.IdiomCopy
import Derived.OrdersHeld
import Derived.Laws.BitsLemmas
import Derived.RowKit
import Derived.Test.YtmloggnobgikdaaVWords
import Derived.Test.YtmloggnobgikdaaVOpen
import Derived.Test.YtmloggnobgikdaaVMap
import Derived.Test.YtmloggnobgikdaaWWords
import Derived.Test.YtmloggnobgikdaaWLast
import Derived.Test.YtmloggnobgikdaaWTab
import Derived.Test.YtmloggnobgikdaaWFour
import Derived.Test.YtmloggnobgikdaaWQPut
import Derived.Test.YtmloggnobgikdaaWApart
import Derived.Test.YtmloggnobgikdaaWArr
import Derived.Test.YtmloggnobgikdaaWZeros
import Derived.Test.YtmloggnobgikdaaWFoot
import Derived.Test.YtmloggnobgikdaaWKept
import Derived.Test.YtmloggnobgikdaaWShare
import Derived.Test.YtmloggnobgikdaaWN
import Derived.Test.YtmloggnobgikdaaWFootNe
import Derived.Test.YtmloggnobgikdaaWAt
import Derived.Test.YtmloggnobgikdaaWEqStruct
import Derived.Test.YtmloggnobgikdaaWRepsOne
import Derived.Test.YtmloggnobgikdaaWInv
import Derived.Test.YtmloggnobgikdaaWInvWords
import Derived.Test.YtmloggnobgikdaaWGuard
import Derived.Test.YtmloggnobgikdaaWNEv
import Derived.Test.YtmloggnobgikdaaWMore
namespace Go.Proofs.Ytmloggnobgikdaa.ZFnExactTreeCut
open Go.RowKit Go.Proofs.YtmloggnobgikdaaW.PrintWords Go.Proofs.YtmloggnobgikdaaW.PrintLast Go.Proofs.YtmloggnobgikdaaW.PrintMore Go.Proofs.YtmloggnobgikdaaV
theorem Z0 {P : Prop} (h : P := by exact pP_ Ua.out) : P := h
theorem Z1 {P : Prop} (h : P := by exact pP_ Ma.out) : P := h
theorem Z2 {P : Prop} (h : P := by exact pP_ Jg.out) : P := h
theorem Z3 {P : Prop} (h : P := by exact pP_ Ua.out) : P := h
theorem Z4 {P : Prop} (h : P := by exact pP_ Oa.out) : P := h
theorem Z5 {P : Prop} (h : P := by exact pP_ Oa.out) : P := h
theorem Z6 {P : Prop} (h : P := by exact pP_ Ja.out) : P := h
theorem Z7 {P : Prop} (h : P := by exact pP_ Oa.out) : P := h
theorem Z8 {P : Prop} (h : P := by exact pP_ Xb.out) : P := h
theorem Z9 {P : Prop} (h : P := by exact pP_ Oa.out) : P := h
theorem Z10 {P : Prop} (h : P := by exact pP_ Ma.out) : P := h
theorem Z11 {P : Prop} (h : P := by repeat (first | (with_reducible first | exact HK.out | apply Kept.alloc | apply Kept.drewN | apply Kept.drew | refine Kept.setCell ?_ (.inr GW444.out) _) | exact HK.out)) : P := h
theorem Z12 {P : Prop} (h : P := by (try simp only [List.map_toArray, List.map_cons, List.map_nil]); first | done | rfl | (simp only [List.length_drop, List.length_take]; rfl)) : P := h
theorem Z13 {P : Prop} (h : P := by repeat (first | (with_reducible first | exact HK.out | apply Kept.alloc | apply Kept.drewN | apply Kept.drew) | exact HK.out)) : P := h
theorem Z14 {P : Prop} (h : P := by first | (rw [add_block]; exact hn347_0) | (show (Addr.add _ _).block ≠ _; rw [add_block]; exact hn347_0) | exact hn347_0) : P := h
theorem Z15 {P : Prop} (h : P := by first | (rw [add_block]; exact hn347_1) | (show (Addr.add _ _).block ≠ _; rw [add_block]; exact hn347_1) | exact hn347_1) : P := h
theorem Z16 {P : Prop} (h : P := by first | (rw [add_block]; exact hn347_2) | (show (Addr.add _ _).block ≠ _; rw [add_block]; exact hn347_2) | exact hn347_2) : P := h
theorem Z17 {P : Prop} (h : P := by first | (rw [add_block]; exact hn347_3) | (show (Addr.add _ _).block ≠ _; rw [add_block]; exact hn347_3) | exact hn347_3) : P := h
theorem Z18 {P : Prop} (h : P := by first | (rw [add_block]; exact hn347_4) | (show (Addr.add _ _).block ≠ _; rw [add_block]; exact hn347_4) | exact hn347_4) : P := h
theorem Z19 {P : Prop} (h : P := by first | (rw [add_block]; exact hn347_5) | (show (Addr.add _ _).block ≠ _; rw [add_block]; exact hn347_5) | exact hn347_5) : P := h
theorem Z20 {P : Prop} (h : P := by rintro w' ⟨s0, s1, s2, s3, s4, s5, s6, s7, s8, s9, s10, s11, s12, s13, s14, s15, s16, s17⟩; go_simp; with_reducible rfl) : P := h
theorem Z21 {P : Prop} (h : P := by rintro w' ⟨s0, s1, s2, s3, s4, s5, s6, s7, s8, s9, s10, s11, s12, s13, s14, s15, s16⟩; go_simp; with_reducible rfl) : P := h
theorem Z22 {P : Prop} (h : P := by rintro w' ⟨s0, s1, s2, s3, s4, s5, s6, s7, s8, s9, s10, s11, s12, s13, s14, s15⟩; go_simp; with_reducible rfl) : P := h
theorem Z23 {P : Prop} (h : P := by (try simp only [List.map_toArray, List.map_cons, List.map_nil]); first | done | rfl | (go_simp; done)) : P := h
theorem Z24 {P : Prop} (h : P := by simp only [putAll, Act.put, List.setIfInBounds_toArray, List.set_cons_zero, List.set_cons_succ]) : P := h
theorem Z25 {P : Prop} (h : P := by have := World.block_lt_of_cell? _ _ hw174_0; first | rwa [add_block] at this | exact this) : P := h
theorem Z26 {P : Prop} (h : P := by have := World.block_lt_of_cell? _ _ hw174_1; first | rwa [add_block] at this | exact this) : P := h
theorem Z27 {P : Prop} (h : P := by have := World.block_lt_of_cell? _ _ hw174_2; first | rwa [add_block] at this | exact this) : P := h
theorem Z28 {P : Prop} (h : P := by have := World.block_lt_of_cell? _ _ hw174_3; first | rwa [add_block] at this | exact this) : P := h
theorem Z29 {P : Prop} (h : P := by have := World.block_lt_of_cell? _ _ hw174_4; first | rwa [add_block] at this | exact this) : P := h
theorem Z30 {P : Prop} (h : P := by have := World.block_lt_of_cell? _ _ hw174_5; first | rwa [add_block] at this | exact this) : P := h
theorem Z31 {P : Prop} (h : P := by have := World.block_lt_of_cell? _ _ hw175_0; first | rwa [add_block] at this | exact this) : P := h
theorem Z32 {P : Prop} (h : P := by have := World.block_lt_of_cell? _ _ hw175_1; first | rwa [add_block] at this | exact this) : P := h
theorem Z33 {P : Prop} (h : P := by have := World.block_lt_of_cell? _ _ hw175_2; first | rwa [add_block] at this | exact this) : P := h
theorem Z34 {P : Prop} (h : P := by have := World.block_lt_of_cell? _ _ hw175_3; first | rwa [add_block] at this | exact this) : P := h
theorem Z35 {P : Prop} (h : P := by have := World.block_lt_of_cell? _ _ hw175_4; first | rwa [add_block] at this | exact this) : P := h
theorem Z36 {P : Prop} (h : P := by have := World.block_lt_of_cell? _ _ hw175_5; first | rwa [add_block] at this | exact this) : P := h
theorem Z37 {P : Prop} (h : P := by have := World.block_lt_of_cell? _ _ hx347_0; first | rwa [add_block] at this | exact this) : P := h
theorem Z38 {P : Prop} (h : P := by rintro w' ⟨s0, s1, s2, s3, s4, s5, s6, s7, s8, s9, s10, s11⟩; go_simp; with_reducible rfl) : P := h
theorem Z39 {P : Prop} (h : P := by rintro w' ⟨s0, s1, s2, s3, s4, s5, s6, s7, s8, s9, s10⟩; go_simp; with_reducible rfl) : P := h
theorem Z40 {P : Prop} (h : P := by rintro w' ⟨s0, s1, s2, s3, s4, s5⟩; go_simp; with_reducible rfl) : P := h
theorem Z41 {P : Prop} (h : P := by rintro w' ⟨s0, s1, s2, s3, s4⟩; go_simp; with_reducible rfl) : P := h
theorem Z42 {P : Prop} (h : P := by rintro w' ⟨s0, s1, s2⟩; go_simp; with_reducible rfl) : P := h
theorem Z43 {P : Prop} (h : P := by first | (with_reducible assumption) | assumption) : P := h
theorem Z44 {P : Prop} (h : P := by first | rfl | (simp; done) | (simp [*]; done)) : P := h
theorem Z45 {P : Prop} (h : P := by rw [hw]; exact HP12.2) : P := h
theorem Z46 {P : Prop} (h : P := by rw [hr_.out]; decide) : P := h
theorem Z47 {P : Prop} (h : P := by first | exact Nat.ne_of_lt (Nat.lt_of_lt_of_le Z25 Ja.out) | (rw [add_block]; exact Nat.ne_of_lt (Nat.lt_of_lt_of_le Z25 Ja.out)) | (show (Addr.add _ _).block ≠ _; rw [add_block]; exact Nat.ne_of_lt (Nat.lt_of_lt_of_le Z25 Ja.out)) | (dsimp only; exact Nat.ne_of_lt (Nat.lt_of_lt_of_le Z25 Ja.out))) : P := h
theorem Z48 {P : Prop} (h : P := by first | exact Nat.ne_of_lt (Nat.lt_of_lt_of_le Z26 Ja.out) | (rw [add_block]; exact Nat.ne_of_lt (Nat.lt_of_lt_of_le Z26 Ja.out)) | (show (Addr.add _ _).block ≠ _; rw [add_block]; exact Nat.ne_of_lt (Nat.lt_of_lt_of_le Z26 Ja.out)) | (dsimp only; exact Nat.ne_of_lt (Nat.lt_of_lt_of_le Z26 Ja.out))) : P := h
theorem Z49 {P : Prop} (h : P := by first | exact Nat.ne_of_lt (Nat.lt_of_lt_of_le Z27 Ja.out) | (rw [add_block]; exact Nat.ne_of_lt (Nat.lt_of_lt_of_le Z27 Ja.out)) | (show (Addr.add _ _).block ≠ _; rw [add_block]; exact Nat.ne_of_lt (Nat.lt_of_lt_of_le Z27 Ja.out)) | (dsimp only; exact Nat.ne_of_lt (Nat.lt_of_lt_of_le Z27 Ja.out))) : P := h
theorem Z50 {P : Prop} (h : P := by first | exact Nat.ne_of_lt (Nat.lt_of_lt_of_le Z28 Ja.out) | (rw [add_block]; exact Nat.ne_of_lt (Nat.lt_of_lt_of_le Z28 Ja.out)) | (show (Addr.add _ _).block ≠ _; rw [add_block]; exact Nat.ne_of_lt (Nat.lt_of_lt_of_le Z28 Ja.out)) | (dsimp only; exact Nat.ne_of_lt (Nat.lt_of_lt_of_le Z28 Ja.out))) : P := h
theorem Z51 {P : Prop} (h : P := by first | exact Nat.ne_of_lt (Nat.lt_of_lt_of_le Z29 Ja.out) | (rw [add_block]; exact Nat.ne_of_lt (Nat.lt_of_lt_of_le Z29 Ja.out)) | (show (Addr.add _ _).block ≠ _; rw [add_block]; exact Nat.ne_of_lt (Nat.lt_of_lt_of_le Z29 Ja.out)) | (dsimp only; exact Nat.ne_of_lt (Nat.lt_of_lt_of_le Z29 Ja.out))) : P := h
theorem Z52 {P : Prop} (h : P := by first | exact Nat.ne_of_lt (Nat.lt_of_lt_of_le Z30 Ja.out) | (rw [add_block]; exact Nat.ne_of_lt (Nat.lt_of_lt_of_le Z30 Ja.out)) | (show (Addr.add _ _).block ≠ _; rw [add_block]; exact Nat.ne_of_lt (Nat.lt_of_lt_of_le Z30 Ja.out)) | (dsimp only; exact Nat.ne_of_lt (Nat.lt_of_lt_of_le Z30 Ja.out))) : P := h
theorem Z53 {P : Prop} (h : P := by first | exact Nat.ne_of_lt (Nat.lt_of_lt_of_le Z31 Ja.out) | (rw [add_block]; exact Nat.ne_of_lt (Nat.lt_of_lt_of_le Z31 Ja.out)) | (show (Addr.add _ _).block ≠ _; rw [add_block]; exact Nat.ne_of_lt (Nat.lt_of_lt_of_le Z31 Ja.out)) | (dsimp only; exact Nat.ne_of_lt (Nat.lt_of_lt_of_le Z31 Ja.out))) : P := h
theorem Z54 {P : Prop} (h : P := by first | exact Nat.ne_of_lt (Nat.lt_of_lt_of_le Z32 Ja.out) | (rw [add_block]; exact Nat.ne_of_lt (Nat.lt_of_lt_of_le Z32 Ja.out)) | (show (Addr.add _ _).block ≠ _; rw [add_block]; exact Nat.ne_of_lt (Nat.lt_of_lt_of_le Z32 Ja.out)) | (dsimp only; exact Nat.ne_of_lt (Nat.lt_of_lt_of_le Z32 Ja.out))) : P := h
theorem Z55 {P : Prop} (h : P := by first | exact Nat.ne_of_lt (Nat.lt_of_lt_of_le Z33 Ja.out) | (rw [add_block]; exact Nat.ne_of_lt (Nat.lt_of_lt_of_le Z33 Ja.out)) | (show (Addr.add _ _).block ≠ _; rw [add_block]; exact Nat.ne_of_lt (Nat.lt_of_lt_of_le Z33 Ja.out)) | (dsimp only; exact Nat.ne_of_lt (Nat.lt_of_lt_of_le Z33 Ja.out))) : P := h
theorem Z56 {P : Prop} (h : P := by first | exact Nat.ne_of_lt (Nat.lt_of_lt_of_le Z34 Ja.out) | (rw [add_block]; exact Nat.ne_of_lt (Nat.lt_of_lt_of_le Z34 Ja.out)) | (show (Addr.add _ _).block ≠ _; rw [add_block]; exact Nat.ne_of_lt (Nat.lt_of_lt_of_le Z34 Ja.out)) | (dsimp only; exact Nat.ne_of_lt (Nat.lt_of_lt_of_le Z34 Ja.out))) : P := h
theorem Z57 {P : Prop} (h : P := by first | exact Nat.ne_of_lt (Nat.lt_of_lt_of_le Z35 Ja.out) | (rw [add_block]; exact Nat.ne_of_lt (Nat.lt_of_lt_of_le Z35 Ja.out)) | (show (Addr.add _ _).block ≠ _; rw [add_block]; exact Nat.ne_of_lt (Nat.lt_of_lt_of_le Z35 Ja.out)) | (dsimp only; exact Nat.ne_of_lt (Nat.lt_of_lt_of_le Z35 Ja.out))) : P := h
theorem Z58 {P : Prop} (h : P := by first | exact Nat.ne_of_lt (Nat.lt_of_lt_of_le Z36 Ja.out) | (rw [add_block]; exact Nat.ne_of_lt (Nat.lt_of_lt_of_le Z36 Ja.out)) | (show (Addr.add _ _).block ≠ _; rw [add_block]; exact Nat.ne_of_lt (Nat.lt_of_lt_of_le Z36 Ja.out)) | (dsimp only; exact Nat.ne_of_lt (Nat.lt_of_lt_of_le Z36 Ja.out))) : P := h
end Go.Proofs.Ytmloggnobgikdaa.ZFnExactTreeCut
