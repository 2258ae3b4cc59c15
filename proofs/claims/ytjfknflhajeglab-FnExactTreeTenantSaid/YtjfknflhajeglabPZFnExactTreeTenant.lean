-- by a program of this session's: scripts that stand several times in the printed texts
import Derived.Test.YtjfknflhajeglabProg
import Derived.Below
import Derived.Deep.Draws
import Derived.Deep.AppendLies
import Derived.Maps.AppendAt
import Derived.OwnWalk
import Derived.Laws.BytesArg
import Derived.Laws.MakeOwn
import Derived.Laws.OwnMore
import Derived.Deep.OwnRows
import Derived.Tactics
import Derived.Lib.ConvBytes
import Derived.Laws.Slices
import Derived.WalkKit
import Derived.KernelRfl
import Derived.RowKit3
import Derived.Deep.LoopGhost
import Derived.Deep.QuietTactic
import Derived.BigQuiet
import Derived.WideLaws
import Derived.Deep.DeepCutAuto
import Derived.Deep.CutBlock
import Derived.Deep.RegionHeld3
import Derived.Laws.Rows
import Derived.Lib.AppendStr
import Derived.ArgAppend
import Derived.Laws.IdiomCopy
import Derived.OrdersHeld
import Derived.Laws.BitsLemmas
import Derived.RowKit
import Derived.Test.YtjfknflhajeglabVWords
import Derived.Test.YtjfknflhajeglabVOpen
import Derived.Test.YtjfknflhajeglabVMap
import Derived.Lib.Overlaps
import Derived.Lib.AppendZerosOnto
import Derived.Test.YtjfknflhajeglabWWords
import Derived.Test.YtjfknflhajeglabWLast
import Derived.Test.YtjfknflhajeglabWTab
import Derived.Test.YtjfknflhajeglabWFour
import Derived.Test.YtjfknflhajeglabWQPut
import Derived.Test.YtjfknflhajeglabWApart
import Derived.Test.YtjfknflhajeglabWArr
import Derived.Test.YtjfknflhajeglabWZeros
import Derived.Test.YtjfknflhajeglabWFoot
import Derived.Test.YtjfknflhajeglabWKept
import Derived.Test.YtjfknflhajeglabWShare
import Derived.Test.YtjfknflhajeglabWN
import Derived.Test.YtjfknflhajeglabWFootNe
import Derived.Test.YtjfknflhajeglabWAt
import Derived.Test.YtjfknflhajeglabWEqStruct
import Derived.Test.YtjfknflhajeglabWRepsOne
import Derived.Test.YtjfknflhajeglabWInv
import Derived.Test.YtjfknflhajeglabWInvWords
import Derived.Test.YtjfknflhajeglabWGuard
import Derived.Test.YtjfknflhajeglabWNEv
import Derived.Test.YtjfknflhajeglabWMore
namespace Go.Proofs.Ytjfknflhajeglab.ZFnExactTreeTenant
open Go.RowKit Go.Proofs.YtjfknflhajeglabW.PrintWords Go.Proofs.YtjfknflhajeglabW.PrintLast Go.Proofs.YtjfknflhajeglabW.PrintMore Go.Proofs.YtjfknflhajeglabV
theorem Z0 {P : Prop} (h : P := by exact pP_ Ua.out) : P := h
theorem Z1 {P : Prop} (h : P := by exact pP_ Ka.out) : P := h
theorem Z2 {P : Prop} (h : P := by exact pP_ Ma.out) : P := h
theorem Z3 {P : Prop} (h : P := by exact pP_ Jg.out) : P := h
theorem Z4 {P : Prop} (h : P := by exact pP_ Ua.out) : P := h
theorem Z5 {P : Prop} (h : P := by exact pP_ Ka.out) : P := h
theorem Z6 {P : Prop} (h : P := by exact pP_ Oa.out) : P := h
theorem Z7 {P : Prop} (h : P := by exact pP_ Ja.out) : P := h
theorem Z8 {P : Prop} (h : P := by exact pP_ Ja.out) : P := h
theorem Z9 {P : Prop} (h : P := by exact pP_ Ua.out) : P := h
theorem Z10 {P : Prop} (h : P := by exact pP_ Oa.out) : P := h
theorem Z11 {P : Prop} (h : P := by exact pP_ Oa.out) : P := h
theorem Z12 {P : Prop} (h : P := by exact pP_ Ja.out) : P := h
theorem Z13 {P : Prop} (h : P := by exact pP_ Oa.out) : P := h
theorem Z14 {P : Prop} (h : P := by exact pP_ Xb.out) : P := h
theorem Z15 {P : Prop} (h : P := by exact pP_ Oa.out) : P := h
theorem Z16 {P : Prop} (h : P := by exact pP_ Ma.out) : P := h
theorem Z17 {P : Prop} (h : P := by exact pP_ Ma.out) : P := h
theorem Z18 {P : Prop} (h : P := by exact pP_ Oa.out) : P := h
theorem Z19 {P : Prop} (h : P := by rintro w' ⟨s0, s1, s2, s3, s4, s5, s6, s7, s8, s9, s10, s11, s12, s13, s14, s15, s16, s17, s18, s19, s20, s21, s22, s23, s24, s25, s26, s27, s28⟩; go_simp; with_reducible rfl) : P := h
theorem Z20 {P : Prop} (h : P := by repeat (first | (with_reducible first | exact HK.out | apply Kept.alloc | apply Kept.drewN | apply Kept.drew | refine Kept.setCell ?_ (.inr GW542.out) _) | exact HK.out)) : P := h
theorem Z21 {P : Prop} (h : P := by (try simp only [List.map_toArray, List.map_cons, List.map_nil]); first | done | rfl | (simp only [List.length_drop, List.length_take]; rfl)) : P := h
theorem Z22 {P : Prop} (h : P := by repeat (first | (with_reducible first | exact HK.out | apply Kept.alloc | apply Kept.drewN | apply Kept.drew) | exact HK.out)) : P := h
theorem Z23 {P : Prop} (h : P := by first | (rw [add_block]; exact hn384_0) | (show (Addr.add _ _).block ≠ _; rw [add_block]; exact hn384_0) | exact hn384_0) : P := h
theorem Z24 {P : Prop} (h : P := by first | (rw [add_block]; exact hn384_1) | (show (Addr.add _ _).block ≠ _; rw [add_block]; exact hn384_1) | exact hn384_1) : P := h
theorem Z25 {P : Prop} (h : P := by first | (rw [add_block]; exact hn384_2) | (show (Addr.add _ _).block ≠ _; rw [add_block]; exact hn384_2) | exact hn384_2) : P := h
theorem Z26 {P : Prop} (h : P := by first | (rw [add_block]; exact hn384_3) | (show (Addr.add _ _).block ≠ _; rw [add_block]; exact hn384_3) | exact hn384_3) : P := h
theorem Z27 {P : Prop} (h : P := by first | (rw [add_block]; exact hn384_4) | (show (Addr.add _ _).block ≠ _; rw [add_block]; exact hn384_4) | exact hn384_4) : P := h
theorem Z28 {P : Prop} (h : P := by first | (rw [add_block]; exact hn384_5) | (show (Addr.add _ _).block ≠ _; rw [add_block]; exact hn384_5) | exact hn384_5) : P := h
theorem Z29 {P : Prop} (h : P := by rintro w' ⟨s0, s1, s2, s3, s4, s5, s6, s7, s8, s9, s10, s11, s12, s13, s14, s15, s16, s17⟩; go_simp; with_reducible rfl) : P := h
theorem Z30 {P : Prop} (h : P := by rintro w' ⟨s0, s1, s2, s3, s4, s5, s6, s7, s8, s9, s10, s11, s12, s13, s14, s15, s16⟩; go_simp; with_reducible rfl) : P := h
theorem Z31 {P : Prop} (h : P := by rintro w' ⟨s0, s1, s2, s3, s4, s5, s6, s7, s8, s9, s10, s11, s12, s13, s14, s15⟩; go_simp; with_reducible rfl) : P := h
theorem Z32 {P : Prop} (h : P := by (try simp only [List.map_toArray, List.map_cons, List.map_nil]); first | done | rfl | (go_simp; done)) : P := h
theorem Z33 {P : Prop} (h : P := by simp only [putAll, Act.put, List.setIfInBounds_toArray, List.set_cons_zero, List.set_cons_succ]) : P := h
theorem Z34 {P : Prop} (h : P := by have := World.block_lt_of_cell? _ _ hw208_0; first | rwa [add_block] at this | exact this) : P := h
theorem Z35 {P : Prop} (h : P := by have := World.block_lt_of_cell? _ _ hw208_1; first | rwa [add_block] at this | exact this) : P := h
theorem Z36 {P : Prop} (h : P := by have := World.block_lt_of_cell? _ _ hw208_2; first | rwa [add_block] at this | exact this) : P := h
theorem Z37 {P : Prop} (h : P := by have := World.block_lt_of_cell? _ _ hw208_3; first | rwa [add_block] at this | exact this) : P := h
theorem Z38 {P : Prop} (h : P := by have := World.block_lt_of_cell? _ _ hw208_4; first | rwa [add_block] at this | exact this) : P := h
theorem Z39 {P : Prop} (h : P := by have := World.block_lt_of_cell? _ _ hw208_5; first | rwa [add_block] at this | exact this) : P := h
theorem Z40 {P : Prop} (h : P := by have := World.block_lt_of_cell? _ _ hw209_0; first | rwa [add_block] at this | exact this) : P := h
theorem Z41 {P : Prop} (h : P := by have := World.block_lt_of_cell? _ _ hw209_1; first | rwa [add_block] at this | exact this) : P := h
theorem Z42 {P : Prop} (h : P := by have := World.block_lt_of_cell? _ _ hw209_2; first | rwa [add_block] at this | exact this) : P := h
theorem Z43 {P : Prop} (h : P := by have := World.block_lt_of_cell? _ _ hw209_3; first | rwa [add_block] at this | exact this) : P := h
theorem Z44 {P : Prop} (h : P := by have := World.block_lt_of_cell? _ _ hw209_4; first | rwa [add_block] at this | exact this) : P := h
theorem Z45 {P : Prop} (h : P := by have := World.block_lt_of_cell? _ _ hw209_5; first | rwa [add_block] at this | exact this) : P := h
theorem Z46 {P : Prop} (h : P := by rintro w' ⟨s0, s1, s2, s3, s4, s5, s6, s7, s8, s9, s10, s11⟩; go_simp; with_reducible rfl) : P := h
theorem Z47 {P : Prop} (h : P := by have := World.block_lt_of_cell? _ _ hx384_0; first | rwa [add_block] at this | exact this) : P := h
theorem Z48 {P : Prop} (h : P := by rintro w' ⟨s0, s1, s2, s3, s4, s5, s6, s7, s8, s9, s10⟩; go_simp; with_reducible rfl) : P := h
theorem Z49 {P : Prop} (h : P := by rintro w' ⟨s0, s1, s2, s3, s4, s5⟩; go_simp; with_reducible rfl) : P := h
theorem Z50 {P : Prop} (h : P := by rintro w' ⟨s0, s1, s2, s3, s4⟩; go_simp; with_reducible rfl) : P := h
theorem Z51 {P : Prop} (h : P := by rintro w' ⟨s0, s1, s2⟩; go_simp; with_reducible rfl) : P := h
theorem Z52 {P : Prop} (h : P := by first | (with_reducible assumption) | assumption) : P := h
theorem Z53 {P : Prop} (h : P := by first | rfl | (simp; done) | (simp [*]; done)) : P := h
theorem Z54 {P : Prop} (h : P := by rw [hw]; exact HP12.2) : P := h
theorem Z55 {P : Prop} (h : P := by rw [hr_.out]; decide) : P := h
theorem Z56 {P : Prop} (h : P := by first | exact Nat.ne_of_lt (Nat.lt_of_lt_of_le Z34 Ja.out) | (rw [add_block]; exact Nat.ne_of_lt (Nat.lt_of_lt_of_le Z34 Ja.out)) | (show (Addr.add _ _).block ≠ _; rw [add_block]; exact Nat.ne_of_lt (Nat.lt_of_lt_of_le Z34 Ja.out)) | (dsimp only; exact Nat.ne_of_lt (Nat.lt_of_lt_of_le Z34 Ja.out))) : P := h
theorem Z57 {P : Prop} (h : P := by first | exact Nat.ne_of_lt (Nat.lt_of_lt_of_le Z35 Ja.out) | (rw [add_block]; exact Nat.ne_of_lt (Nat.lt_of_lt_of_le Z35 Ja.out)) | (show (Addr.add _ _).block ≠ _; rw [add_block]; exact Nat.ne_of_lt (Nat.lt_of_lt_of_le Z35 Ja.out)) | (dsimp only; exact Nat.ne_of_lt (Nat.lt_of_lt_of_le Z35 Ja.out))) : P := h
theorem Z58 {P : Prop} (h : P := by first | exact Nat.ne_of_lt (Nat.lt_of_lt_of_le Z36 Ja.out) | (rw [add_block]; exact Nat.ne_of_lt (Nat.lt_of_lt_of_le Z36 Ja.out)) | (show (Addr.add _ _).block ≠ _; rw [add_block]; exact Nat.ne_of_lt (Nat.lt_of_lt_of_le Z36 Ja.out)) | (dsimp only; exact Nat.ne_of_lt (Nat.lt_of_lt_of_le Z36 Ja.out))) : P := h
theorem Z59 {P : Prop} (h : P := by first | exact Nat.ne_of_lt (Nat.lt_of_lt_of_le Z37 Ja.out) | (rw [add_block]; exact Nat.ne_of_lt (Nat.lt_of_lt_of_le Z37 Ja.out)) | (show (Addr.add _ _).block ≠ _; rw [add_block]; exact Nat.ne_of_lt (Nat.lt_of_lt_of_le Z37 Ja.out)) | (dsimp only; exact Nat.ne_of_lt (Nat.lt_of_lt_of_le Z37 Ja.out))) : P := h
theorem Z60 {P : Prop} (h : P := by first | exact Nat.ne_of_lt (Nat.lt_of_lt_of_le Z38 Ja.out) | (rw [add_block]; exact Nat.ne_of_lt (Nat.lt_of_lt_of_le Z38 Ja.out)) | (show (Addr.add _ _).block ≠ _; rw [add_block]; exact Nat.ne_of_lt (Nat.lt_of_lt_of_le Z38 Ja.out)) | (dsimp only; exact Nat.ne_of_lt (Nat.lt_of_lt_of_le Z38 Ja.out))) : P := h
theorem Z61 {P : Prop} (h : P := by first | exact Nat.ne_of_lt (Nat.lt_of_lt_of_le Z39 Ja.out) | (rw [add_block]; exact Nat.ne_of_lt (Nat.lt_of_lt_of_le Z39 Ja.out)) | (show (Addr.add _ _).block ≠ _; rw [add_block]; exact Nat.ne_of_lt (Nat.lt_of_lt_of_le Z39 Ja.out)) | (dsimp only; exact Nat.ne_of_lt (Nat.lt_of_lt_of_le Z39 Ja.out))) : P := h
theorem Z62 {P : Prop} (h : P := by first | exact Nat.ne_of_lt (Nat.lt_of_lt_of_le Z40 Ja.out) | (rw [add_block]; exact Nat.ne_of_lt (Nat.lt_of_lt_of_le Z40 Ja.out)) | (show (Addr.add _ _).block ≠ _; rw [add_block]; exact Nat.ne_of_lt (Nat.lt_of_lt_of_le Z40 Ja.out)) | (dsimp only; exact Nat.ne_of_lt (Nat.lt_of_lt_of_le Z40 Ja.out))) : P := h
theorem Z63 {P : Prop} (h : P := by first | exact Nat.ne_of_lt (Nat.lt_of_lt_of_le Z41 Ja.out) | (rw [add_block]; exact Nat.ne_of_lt (Nat.lt_of_lt_of_le Z41 Ja.out)) | (show (Addr.add _ _).block ≠ _; rw [add_block]; exact Nat.ne_of_lt (Nat.lt_of_lt_of_le Z41 Ja.out)) | (dsimp only; exact Nat.ne_of_lt (Nat.lt_of_lt_of_le Z41 Ja.out))) : P := h
theorem Z64 {P : Prop} (h : P := by first | exact Nat.ne_of_lt (Nat.lt_of_lt_of_le Z42 Ja.out) | (rw [add_block]; exact Nat.ne_of_lt (Nat.lt_of_lt_of_le Z42 Ja.out)) | (show (Addr.add _ _).block ≠ _; rw [add_block]; exact Nat.ne_of_lt (Nat.lt_of_lt_of_le Z42 Ja.out)) | (dsimp only; exact Nat.ne_of_lt (Nat.lt_of_lt_of_le Z42 Ja.out))) : P := h
theorem Z65 {P : Prop} (h : P := by first | exact Nat.ne_of_lt (Nat.lt_of_lt_of_le Z43 Ja.out) | (rw [add_block]; exact Nat.ne_of_lt (Nat.lt_of_lt_of_le Z43 Ja.out)) | (show (Addr.add _ _).block ≠ _; rw [add_block]; exact Nat.ne_of_lt (Nat.lt_of_lt_of_le Z43 Ja.out)) | (dsimp only; exact Nat.ne_of_lt (Nat.lt_of_lt_of_le Z43 Ja.out))) : P := h
theorem Z66 {P : Prop} (h : P := by first | exact Nat.ne_of_lt (Nat.lt_of_lt_of_le Z44 Ja.out) | (rw [add_block]; exact Nat.ne_of_lt (Nat.lt_of_lt_of_le Z44 Ja.out)) | (show (Addr.add _ _).block ≠ _; rw [add_block]; exact Nat.ne_of_lt (Nat.lt_of_lt_of_le Z44 Ja.out)) | (dsimp only; exact Nat.ne_of_lt (Nat.lt_of_lt_of_le Z44 Ja.out))) : P := h
theorem Z67 {P : Prop} (h : P := by first | exact Nat.ne_of_lt (Nat.lt_of_lt_of_le Z45 Ja.out) | (rw [add_block]; exact Nat.ne_of_lt (Nat.lt_of_lt_of_le Z45 Ja.out)) | (show (Addr.add _ _).block ≠ _; rw [add_block]; exact Nat.ne_of_lt (Nat.lt_of_lt_of_le Z45 Ja.out)) | (dsimp only; exact Nat.ne_of_lt (Nat.lt_of_lt_of_le Z45 Ja.out))) : P := h
end Go.Proofs.Ytjfknflhajeglab.ZFnExactTreeTenant
