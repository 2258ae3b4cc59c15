-- by a program of this session's: scripts that stand several times in the printed texts
import Derived.Test.YtpkdkhhknmlpjaaProg
import Derived.Below
import Derived.Deep.Draws
import Derived.Deep.AppendLies
import Derived.Maps.AppendAt
import Derived.OwnWalk
import Derived.Laws.BytesArg
import Derived.Laws.MakeOwn
import Derived.Laws.OwnMore
import Derived.Deep.OwnRows
import Derived.Tactics
import Derived.Lib.ConvBytes
import Derived.Laws.Slices
import Derived.WalkKit
import Derived.KernelRfl
import Derived.RowKit3
import Derived.Deep.LoopGhost
import Derived.Deep.QuietTactic
import Derived.BigQuiet
import Derived.WideLaws
import Derived.Deep.DeepCutAuto
import Derived.Deep.CutBlock
import Derived.Deep.RegionHeld3
import Derived.Laws.Rows
import Derived.Lib.AppendStr
import Derived.ArgAppend
import Derived.Laws.IdiomCopy
import Derived.OrdersHeld
import Derived.Laws.BitsLemmas
import Derived.RowKit
import Derived.Test.YtpkdkhhknmlpjaaVWords
import Derived.Test.YtpkdkhhknmlpjaaVOpen
import Derived.Test.YtpkdkhhknmlpjaaVMap
import Derived.Test.YtpkdkhhknmlpjaaWWords
import Derived.Test.YtpkdkhhknmlpjaaWLast
import Derived.Test.YtpkdkhhknmlpjaaWTab
import Derived.Test.YtpkdkhhknmlpjaaWFour
import Derived.Test.YtpkdkhhknmlpjaaWQPut
import Derived.Test.YtpkdkhhknmlpjaaWApart
import Derived.Test.YtpkdkhhknmlpjaaWArr
import Derived.Test.YtpkdkhhknmlpjaaWZeros
import Derived.Test.YtpkdkhhknmlpjaaWFoot
import Derived.Test.YtpkdkhhknmlpjaaWKept
import Derived.Test.YtpkdkhhknmlpjaaWShare
import Derived.Test.YtpkdkhhknmlpjaaWN
import Derived.Test.YtpkdkhhknmlpjaaWFootNe
import Derived.Test.YtpkdkhhknmlpjaaWAt
import Derived.Test.YtpkdkhhknmlpjaaWEqStruct
import Derived.Test.YtpkdkhhknmlpjaaWRepsOne
import Derived.Test.YtpkdkhhknmlpjaaWInv
import Derived.Test.YtpkdkhhknmlpjaaWInvWords
import Derived.Test.YtpkdkhhknmlpjaaWGuard
import Derived.Test.YtpkdkhhknmlpjaaWNEv
import Derived.Test.YtpkdkhhknmlpjaaWMore
namespace Go.Proofs.Ytpkdkhhknmlpjaa.ZFnTakenAdds
open Go.RowKit Go.Proofs.YtpkdkhhknmlpjaaW.PrintWords Go.Proofs.YtpkdkhhknmlpjaaW.PrintLast Go.Proofs.YtpkdkhhknmlpjaaW.PrintMore Go.Proofs.YtpkdkhhknmlpjaaV
theorem Z0 {P : Prop} (h : P := by exact pP_ Ua.out) : P := h
theorem Z1 {P : Prop} (h : P := by exact pP_ Ja.out) : P := h
theorem Z2 {P : Prop} (h : P := by exact pP_ Ja.out) : P := h
theorem Z3 {P : Prop} (h : P := by exact pP_ Ja.out) : P := h
theorem Z4 {P : Prop} (h : P := by exact pP_ Ja.out) : P := h
theorem Z5 {P : Prop} (h : P := by exact pP_ Ua.out) : P := h
theorem Z6 {P : Prop} (h : P := by exact pP_ Ka.out) : P := h
theorem Z7 {P : Prop} (h : P := by exact pP_ BK195.out) : P := h
theorem Z8 {P : Prop} (h : P := by exact pP_ Oa.out) : P := h
theorem Z9 {P : Prop} (h : P := by exact pP_ Ua.out) : P := h
theorem Z10 {P : Prop} (h : P := by exact pP_ Xa.out) : P := h
theorem Z11 {P : Prop} (h : P := by exact pP_ Ja.out) : P := h
theorem Z12 {P : Prop} (h : P := by exact pP_ Xa.out) : P := h
theorem Z13 {P : Prop} (h : P := by exact pP_ Jb.out) : P := h
theorem Z14 {P : Prop} (h : P := by exact pP_ Ka.out) : P := h
theorem Z15 {P : Prop} (h : P := by exact pP_ BK345.out) : P := h
theorem Z16 {P : Prop} (h : P := by exact pP_ Ma.out) : P := h
theorem Z17 {P : Prop} (h : P := by exact pP_ Ma.out) : P := h
theorem Z18 {P : Prop} (h : P := by exact pP_ Oa.out) : P := h
theorem Z19 {P : Prop} (h : P := by rintro w' ⟨s0, s1, s2, s3, s4, s5, s6, s7, s8, s9, s10, s11, s12, s13, s14, s15, s16, s17, s18, s19, s20, s21, s22⟩; go_simp; with_reducible rfl) : P := h
theorem Z20 {P : Prop} (h : P := by (try simp only [List.map_toArray, List.map_cons, List.map_nil]); first | done | rfl | (simp only [List.length_drop, List.length_take]; rfl)) : P := h
theorem Z21 {P : Prop} (h : P := by repeat (first | (with_reducible first | exact HBW.out | apply below_alloc | apply pw_below_drewN | apply below_drew1) | exact HBW.out)) : P := h
theorem Z22 {P : Prop} (h : P := by rintro w' ⟨s0, s1, s2, s3, s4, s5, s6, s7, s8, s9, s10, s11, s12, s13, s14, s15, s16, s17, s18, s19⟩; go_simp; with_reducible rfl) : P := h
theorem Z23 {P : Prop} (h : P := by rintro w' ⟨s0, s1, s2, s3, s4, s5, s6, s7, s8, s9, s10, s11, s12, s13, s14, s15, s16, s17⟩; go_simp; with_reducible rfl) : P := h
theorem Z24 {P : Prop} (h : P := by rintro w' ⟨s0, s1, s2, s3, s4, s5, s6, s7, s8, s9, s10, s11, s12, s13, s14, s15, s16⟩; go_simp; with_reducible rfl) : P := h
theorem Z25 {P : Prop} (h : P := by rintro w' ⟨s0, s1, s2, s3, s4, s5, s6, s7, s8, s9, s10, s11, s12, s13, s14, s15⟩; go_simp; with_reducible rfl) : P := h
theorem Z26 {P : Prop} (h : P := by simp only [putAll, Act.put, List.setIfInBounds_toArray, List.set_cons_zero, List.set_cons_succ]) : P := h
theorem Z27 {P : Prop} (h : P := by exact pP_ BK836.out) : P := h
theorem Z28 {P : Prop} (h : P := by rintro w' ⟨s0, s1, s2, s3, s4, s5, s6, s7, s8, s9, s10, s11, s12⟩; go_simp; with_reducible rfl) : P := h
theorem Z29 {P : Prop} (h : P := by have := World.block_lt_of_cell? _ _ hw181_0; first | rwa [add_block] at this | exact this) : P := h
theorem Z30 {P : Prop} (h : P := by have := World.block_lt_of_cell? _ _ hw181_1; first | rwa [add_block] at this | exact this) : P := h
theorem Z31 {P : Prop} (h : P := by have := World.block_lt_of_cell? _ _ hw181_2; first | rwa [add_block] at this | exact this) : P := h
theorem Z32 {P : Prop} (h : P := by have := World.block_lt_of_cell? _ _ hw181_3; first | rwa [add_block] at this | exact this) : P := h
theorem Z33 {P : Prop} (h : P := by have := World.block_lt_of_cell? _ _ hw181_4; first | rwa [add_block] at this | exact this) : P := h
theorem Z34 {P : Prop} (h : P := by have := World.block_lt_of_cell? _ _ hw181_5; first | rwa [add_block] at this | exact this) : P := h
theorem Z35 {P : Prop} (h : P := by have := World.block_lt_of_cell? _ _ hw254_0; first | rwa [add_block] at this | exact this) : P := h
theorem Z36 {P : Prop} (h : P := by have := World.block_lt_of_cell? _ _ hw255_0; first | rwa [add_block] at this | exact this) : P := h
theorem Z37 {P : Prop} (h : P := by have := World.block_lt_of_cell? _ _ hw256_0; first | rwa [add_block] at this | exact this) : P := h
theorem Z38 {P : Prop} (h : P := by have := World.block_lt_of_cell? _ _ hw308_0; first | rwa [add_block] at this | exact this) : P := h
theorem Z39 {P : Prop} (h : P := by have := World.block_lt_of_cell? _ _ hw308_1; first | rwa [add_block] at this | exact this) : P := h
theorem Z40 {P : Prop} (h : P := by have := World.block_lt_of_cell? _ _ hw308_2; first | rwa [add_block] at this | exact this) : P := h
theorem Z41 {P : Prop} (h : P := by have := World.block_lt_of_cell? _ _ hw308_3; first | rwa [add_block] at this | exact this) : P := h
theorem Z42 {P : Prop} (h : P := by have := World.block_lt_of_cell? _ _ hw308_4; first | rwa [add_block] at this | exact this) : P := h
theorem Z43 {P : Prop} (h : P := by have := World.block_lt_of_cell? _ _ hw308_5; first | rwa [add_block] at this | exact this) : P := h
theorem Z44 {P : Prop} (h : P := by have := World.block_lt_of_cell? _ _ hw313_0; first | rwa [add_block] at this | exact this) : P := h
theorem Z45 {P : Prop} (h : P := by have := World.block_lt_of_cell? _ _ hw313_1; first | rwa [add_block] at this | exact this) : P := h
theorem Z46 {P : Prop} (h : P := by have := World.block_lt_of_cell? _ _ hw313_2; first | rwa [add_block] at this | exact this) : P := h
theorem Z47 {P : Prop} (h : P := by have := World.block_lt_of_cell? _ _ hw313_3; first | rwa [add_block] at this | exact this) : P := h
theorem Z48 {P : Prop} (h : P := by have := World.block_lt_of_cell? _ _ hw313_4; first | rwa [add_block] at this | exact this) : P := h
theorem Z49 {P : Prop} (h : P := by have := World.block_lt_of_cell? _ _ hw313_5; first | rwa [add_block] at this | exact this) : P := h
theorem Z50 {P : Prop} (h : P := by have := World.block_lt_of_cell? _ _ hw314_0; first | rwa [add_block] at this | exact this) : P := h
theorem Z51 {P : Prop} (h : P := by have := World.block_lt_of_cell? _ _ hw314_1; first | rwa [add_block] at this | exact this) : P := h
theorem Z52 {P : Prop} (h : P := by have := World.block_lt_of_cell? _ _ hw314_2; first | rwa [add_block] at this | exact this) : P := h
theorem Z53 {P : Prop} (h : P := by have := World.block_lt_of_cell? _ _ hw314_3; first | rwa [add_block] at this | exact this) : P := h
theorem Z54 {P : Prop} (h : P := by have := World.block_lt_of_cell? _ _ hw314_4; first | rwa [add_block] at this | exact this) : P := h
theorem Z55 {P : Prop} (h : P := by have := World.block_lt_of_cell? _ _ hw314_5; first | rwa [add_block] at this | exact this) : P := h
theorem Z56 {P : Prop} (h : P := by have := World.block_lt_of_cell? _ _ hw330_0; first | rwa [add_block] at this | exact this) : P := h
theorem Z57 {P : Prop} (h : P := by have := World.block_lt_of_cell? _ _ hw330_1; first | rwa [add_block] at this | exact this) : P := h
theorem Z58 {P : Prop} (h : P := by have := World.block_lt_of_cell? _ _ hw330_2; first | rwa [add_block] at this | exact this) : P := h
theorem Z59 {P : Prop} (h : P := by have := World.block_lt_of_cell? _ _ hw330_3; first | rwa [add_block] at this | exact this) : P := h
theorem Z60 {P : Prop} (h : P := by have := World.block_lt_of_cell? _ _ hw330_4; first | rwa [add_block] at this | exact this) : P := h
theorem Z61 {P : Prop} (h : P := by have := World.block_lt_of_cell? _ _ hw330_5; first | rwa [add_block] at this | exact this) : P := h
theorem Z62 {P : Prop} (h : P := by rintro w' ⟨s0, s1, s2, s3, s4, s5, s6, s7, s8, s9, s10⟩; go_simp; with_reducible rfl) : P := h
theorem Z63 {P : Prop} (h : P := by rintro w' ⟨s0, s1, s2, s3, s4, s5, s6, s7, s8⟩; go_simp; with_reducible rfl) : P := h
theorem Z64 {P : Prop} (h : P := by rintro w' ⟨s0, s1, s2, s3, s4, s5, s6⟩; go_simp; with_reducible rfl) : P := h
theorem Z65 {P : Prop} (h : P := by rintro w' ⟨s0, s1, s2, s3, s4, s5⟩; go_simp; with_reducible rfl) : P := h
theorem Z66 {P : Prop} (h : P := by rintro w' ⟨s0, s1, s2, s3, s4⟩; go_simp; with_reducible rfl) : P := h
theorem Z67 {P : Prop} (h : P := by rintro w' ⟨s0, s1, s2⟩; go_simp; with_reducible rfl) : P := h
theorem Z68 {P : Prop} (h : P := by first | (with_reducible assumption) | assumption) : P := h
theorem Z69 {P : Prop} (h : P := by first | rfl | (simp; done) | (simp [*]; done)) : P := h
theorem Z70 {P : Prop} (h : P := by first | (go_simp; done) | (go_simp; rfl)) : P := h
theorem Z71 {P : Prop} (h : P := by first | rfl | (go_simp; done) | simp) : P := h
theorem Z72 {P : Prop} (h : P := by rw [hr_.out]; decide) : P := h
theorem Z73 {P : Prop} (h : P := by first | exact Nat.ne_of_lt (Nat.lt_of_lt_of_le Z35 GW253.out) | (rw [add_block]; exact Nat.ne_of_lt (Nat.lt_of_lt_of_le Z35 GW253.out)) | (show (Addr.add _ _).block ≠ _; rw [add_block]; exact Nat.ne_of_lt (Nat.lt_of_lt_of_le Z35 GW253.out)) | (dsimp only; exact Nat.ne_of_lt (Nat.lt_of_lt_of_le Z35 GW253.out))) : P := h
theorem Z74 {P : Prop} (h : P := by first | exact Nat.ne_of_lt (Nat.lt_of_lt_of_le Z36 GW253.out) | (rw [add_block]; exact Nat.ne_of_lt (Nat.lt_of_lt_of_le Z36 GW253.out)) | (show (Addr.add _ _).block ≠ _; rw [add_block]; exact Nat.ne_of_lt (Nat.lt_of_lt_of_le Z36 GW253.out)) | (dsimp only; exact Nat.ne_of_lt (Nat.lt_of_lt_of_le Z36 GW253.out))) : P := h
theorem Z75 {P : Prop} (h : P := by first | exact Nat.ne_of_lt (Nat.lt_of_lt_of_le Z37 GW253.out) | (rw [add_block]; exact Nat.ne_of_lt (Nat.lt_of_lt_of_le Z37 GW253.out)) | (show (Addr.add _ _).block ≠ _; rw [add_block]; exact Nat.ne_of_lt (Nat.lt_of_lt_of_le Z37 GW253.out)) | (dsimp only; exact Nat.ne_of_lt (Nat.lt_of_lt_of_le Z37 GW253.out))) : P := h
theorem Z76 {P : Prop} (h : P := by first | exact Nat.ne_of_lt (Nat.lt_of_lt_of_le Z29 Ja.out) | (rw [add_block]; exact Nat.ne_of_lt (Nat.lt_of_lt_of_le Z29 Ja.out)) | (show (Addr.add _ _).block ≠ _; rw [add_block]; exact Nat.ne_of_lt (Nat.lt_of_lt_of_le Z29 Ja.out)) | (dsimp only; exact Nat.ne_of_lt (Nat.lt_of_lt_of_le Z29 Ja.out))) : P := h
theorem Z77 {P : Prop} (h : P := by first | exact Nat.ne_of_lt (Nat.lt_of_lt_of_le Z30 Ja.out) | (rw [add_block]; exact Nat.ne_of_lt (Nat.lt_of_lt_of_le Z30 Ja.out)) | (show (Addr.add _ _).block ≠ _; rw [add_block]; exact Nat.ne_of_lt (Nat.lt_of_lt_of_le Z30 Ja.out)) | (dsimp only; exact Nat.ne_of_lt (Nat.lt_of_lt_of_le Z30 Ja.out))) : P := h
theorem Z78 {P : Prop} (h : P := by first | exact Nat.ne_of_lt (Nat.lt_of_lt_of_le Z31 Ja.out) | (rw [add_block]; exact Nat.ne_of_lt (Nat.lt_of_lt_of_le Z31 Ja.out)) | (show (Addr.add _ _).block ≠ _; rw [add_block]; exact Nat.ne_of_lt (Nat.lt_of_lt_of_le Z31 Ja.out)) | (dsimp only; exact Nat.ne_of_lt (Nat.lt_of_lt_of_le Z31 Ja.out))) : P := h
theorem Z79 {P : Prop} (h : P := by first | exact Nat.ne_of_lt (Nat.lt_of_lt_of_le Z32 Ja.out) | (rw [add_block]; exact Nat.ne_of_lt (Nat.lt_of_lt_of_le Z32 Ja.out)) | (show (Addr.add _ _).block ≠ _; rw [add_block]; exact Nat.ne_of_lt (Nat.lt_of_lt_of_le Z32 Ja.out)) | (dsimp only; exact Nat.ne_of_lt (Nat.lt_of_lt_of_le Z32 Ja.out))) : P := h
theorem Z80 {P : Prop} (h : P := by first | exact Nat.ne_of_lt (Nat.lt_of_lt_of_le Z33 Ja.out) | (rw [add_block]; exact Nat.ne_of_lt (Nat.lt_of_lt_of_le Z33 Ja.out)) | (show (Addr.add _ _).block ≠ _; rw [add_block]; exact Nat.ne_of_lt (Nat.lt_of_lt_of_le Z33 Ja.out)) | (dsimp only; exact Nat.ne_of_lt (Nat.lt_of_lt_of_le Z33 Ja.out))) : P := h
theorem Z81 {P : Prop} (h : P := by first | exact Nat.ne_of_lt (Nat.lt_of_lt_of_le Z34 Ja.out) | (rw [add_block]; exact Nat.ne_of_lt (Nat.lt_of_lt_of_le Z34 Ja.out)) | (show (Addr.add _ _).block ≠ _; rw [add_block]; exact Nat.ne_of_lt (Nat.lt_of_lt_of_le Z34 Ja.out)) | (dsimp only; exact Nat.ne_of_lt (Nat.lt_of_lt_of_le Z34 Ja.out))) : P := h
theorem Z82 {P : Prop} (h : P := by first | exact Nat.ne_of_lt (Nat.lt_of_lt_of_le Z38 Ob.out) | (rw [add_block]; exact Nat.ne_of_lt (Nat.lt_of_lt_of_le Z38 Ob.out)) | (show (Addr.add _ _).block ≠ _; rw [add_block]; exact Nat.ne_of_lt (Nat.lt_of_lt_of_le Z38 Ob.out)) | (dsimp only; exact Nat.ne_of_lt (Nat.lt_of_lt_of_le Z38 Ob.out))) : P := h
theorem Z83 {P : Prop} (h : P := by first | exact Nat.ne_of_lt (Nat.lt_of_lt_of_le Z39 Ob.out) | (rw [add_block]; exact Nat.ne_of_lt (Nat.lt_of_lt_of_le Z39 Ob.out)) | (show (Addr.add _ _).block ≠ _; rw [add_block]; exact Nat.ne_of_lt (Nat.lt_of_lt_of_le Z39 Ob.out)) | (dsimp only; exact Nat.ne_of_lt (Nat.lt_of_lt_of_le Z39 Ob.out))) : P := h
theorem Z84 {P : Prop} (h : P := by first | exact Nat.ne_of_lt (Nat.lt_of_lt_of_le Z40 Ob.out) | (rw [add_block]; exact Nat.ne_of_lt (Nat.lt_of_lt_of_le Z40 Ob.out)) | (show (Addr.add _ _).block ≠ _; rw [add_block]; exact Nat.ne_of_lt (Nat.lt_of_lt_of_le Z40 Ob.out)) | (dsimp only; exact Nat.ne_of_lt (Nat.lt_of_lt_of_le Z40 Ob.out))) : P := h
theorem Z85 {P : Prop} (h : P := by first | exact Nat.ne_of_lt (Nat.lt_of_lt_of_le Z41 Ob.out) | (rw [add_block]; exact Nat.ne_of_lt (Nat.lt_of_lt_of_le Z41 Ob.out)) | (show (Addr.add _ _).block ≠ _; rw [add_block]; exact Nat.ne_of_lt (Nat.lt_of_lt_of_le Z41 Ob.out)) | (dsimp only; exact Nat.ne_of_lt (Nat.lt_of_lt_of_le Z41 Ob.out))) : P := h
theorem Z86 {P : Prop} (h : P := by first | exact Nat.ne_of_lt (Nat.lt_of_lt_of_le Z42 Ob.out) | (rw [add_block]; exact Nat.ne_of_lt (Nat.lt_of_lt_of_le Z42 Ob.out)) | (show (Addr.add _ _).block ≠ _; rw [add_block]; exact Nat.ne_of_lt (Nat.lt_of_lt_of_le Z42 Ob.out)) | (dsimp only; exact Nat.ne_of_lt (Nat.lt_of_lt_of_le Z42 Ob.out))) : P := h
theorem Z87 {P : Prop} (h : P := by first | exact Nat.ne_of_lt (Nat.lt_of_lt_of_le Z43 Ob.out) | (rw [add_block]; exact Nat.ne_of_lt (Nat.lt_of_lt_of_le Z43 Ob.out)) | (show (Addr.add _ _).block ≠ _; rw [add_block]; exact Nat.ne_of_lt (Nat.lt_of_lt_of_le Z43 Ob.out)) | (dsimp only; exact Nat.ne_of_lt (Nat.lt_of_lt_of_le Z43 Ob.out))) : P := h
theorem Z88 {P : Prop} (h : P := by first | exact Nat.ne_of_lt (Nat.lt_of_lt_of_le Z44 Ma.out) | (rw [add_block]; exact Nat.ne_of_lt (Nat.lt_of_lt_of_le Z44 Ma.out)) | (show (Addr.add _ _).block ≠ _; rw [add_block]; exact Nat.ne_of_lt (Nat.lt_of_lt_of_le Z44 Ma.out)) | (dsimp only; exact Nat.ne_of_lt (Nat.lt_of_lt_of_le Z44 Ma.out))) : P := h
theorem Z89 {P : Prop} (h : P := by first | exact Nat.ne_of_lt (Nat.lt_of_lt_of_le Z45 Ma.out) | (rw [add_block]; exact Nat.ne_of_lt (Nat.lt_of_lt_of_le Z45 Ma.out)) | (show (Addr.add _ _).block ≠ _; rw [add_block]; exact Nat.ne_of_lt (Nat.lt_of_lt_of_le Z45 Ma.out)) | (dsimp only; exact Nat.ne_of_lt (Nat.lt_of_lt_of_le Z45 Ma.out))) : P := h
theorem Z90 {P : Prop} (h : P := by first | exact Nat.ne_of_lt (Nat.lt_of_lt_of_le Z46 Ma.out) | (rw [add_block]; exact Nat.ne_of_lt (Nat.lt_of_lt_of_le Z46 Ma.out)) | (show (Addr.add _ _).block ≠ _; rw [add_block]; exact Nat.ne_of_lt (Nat.lt_of_lt_of_le Z46 Ma.out)) | (dsimp only; exact Nat.ne_of_lt (Nat.lt_of_lt_of_le Z46 Ma.out))) : P := h
theorem Z91 {P : Prop} (h : P := by first | exact Nat.ne_of_lt (Nat.lt_of_lt_of_le Z47 Ma.out) | (rw [add_block]; exact Nat.ne_of_lt (Nat.lt_of_lt_of_le Z47 Ma.out)) | (show (Addr.add _ _).block ≠ _; rw [add_block]; exact Nat.ne_of_lt (Nat.lt_of_lt_of_le Z47 Ma.out)) | (dsimp only; exact Nat.ne_of_lt (Nat.lt_of_lt_of_le Z47 Ma.out))) : P := h
theorem Z92 {P : Prop} (h : P := by first | exact Nat.ne_of_lt (Nat.lt_of_lt_of_le Z48 Ma.out) | (rw [add_block]; exact Nat.ne_of_lt (Nat.lt_of_lt_of_le Z48 Ma.out)) | (show (Addr.add _ _).block ≠ _; rw [add_block]; exact Nat.ne_of_lt (Nat.lt_of_lt_of_le Z48 Ma.out)) | (dsimp only; exact Nat.ne_of_lt (Nat.lt_of_lt_of_le Z48 Ma.out))) : P := h
theorem Z93 {P : Prop} (h : P := by first | exact Nat.ne_of_lt (Nat.lt_of_lt_of_le Z49 Ma.out) | (rw [add_block]; exact Nat.ne_of_lt (Nat.lt_of_lt_of_le Z49 Ma.out)) | (show (Addr.add _ _).block ≠ _; rw [add_block]; exact Nat.ne_of_lt (Nat.lt_of_lt_of_le Z49 Ma.out)) | (dsimp only; exact Nat.ne_of_lt (Nat.lt_of_lt_of_le Z49 Ma.out))) : P := h
theorem Z94 {P : Prop} (h : P := by first | exact Nat.ne_of_lt (Nat.lt_of_lt_of_le Z50 Ma.out) | (rw [add_block]; exact Nat.ne_of_lt (Nat.lt_of_lt_of_le Z50 Ma.out)) | (show (Addr.add _ _).block ≠ _; rw [add_block]; exact Nat.ne_of_lt (Nat.lt_of_lt_of_le Z50 Ma.out)) | (dsimp only; exact Nat.ne_of_lt (Nat.lt_of_lt_of_le Z50 Ma.out))) : P := h
theorem Z95 {P : Prop} (h : P := by first | exact Nat.ne_of_lt (Nat.lt_of_lt_of_le Z51 Ma.out) | (rw [add_block]; exact Nat.ne_of_lt (Nat.lt_of_lt_of_le Z51 Ma.out)) | (show (Addr.add _ _).block ≠ _; rw [add_block]; exact Nat.ne_of_lt (Nat.lt_of_lt_of_le Z51 Ma.out)) | (dsimp only; exact Nat.ne_of_lt (Nat.lt_of_lt_of_le Z51 Ma.out))) : P := h
theorem Z96 {P : Prop} (h : P := by first | exact Nat.ne_of_lt (Nat.lt_of_lt_of_le Z52 Ma.out) | (rw [add_block]; exact Nat.ne_of_lt (Nat.lt_of_lt_of_le Z52 Ma.out)) | (show (Addr.add _ _).block ≠ _; rw [add_block]; exact Nat.ne_of_lt (Nat.lt_of_lt_of_le Z52 Ma.out)) | (dsimp only; exact Nat.ne_of_lt (Nat.lt_of_lt_of_le Z52 Ma.out))) : P := h
theorem Z97 {P : Prop} (h : P := by first | exact Nat.ne_of_lt (Nat.lt_of_lt_of_le Z53 Ma.out) | (rw [add_block]; exact Nat.ne_of_lt (Nat.lt_of_lt_of_le Z53 Ma.out)) | (show (Addr.add _ _).block ≠ _; rw [add_block]; exact Nat.ne_of_lt (Nat.lt_of_lt_of_le Z53 Ma.out)) | (dsimp only; exact Nat.ne_of_lt (Nat.lt_of_lt_of_le Z53 Ma.out))) : P := h
theorem Z98 {P : Prop} (h : P := by first | exact Nat.ne_of_lt (Nat.lt_of_lt_of_le Z54 Ma.out) | (rw [add_block]; exact Nat.ne_of_lt (Nat.lt_of_lt_of_le Z54 Ma.out)) | (show (Addr.add _ _).block ≠ _; rw [add_block]; exact Nat.ne_of_lt (Nat.lt_of_lt_of_le Z54 Ma.out)) | (dsimp only; exact Nat.ne_of_lt (Nat.lt_of_lt_of_le Z54 Ma.out))) : P := h
theorem Z99 {P : Prop} (h : P := by first | exact Nat.ne_of_lt (Nat.lt_of_lt_of_le Z55 Ma.out) | (rw [add_block]; exact Nat.ne_of_lt (Nat.lt_of_lt_of_le Z55 Ma.out)) | (show (Addr.add _ _).block ≠ _; rw [add_block]; exact Nat.ne_of_lt (Nat.lt_of_lt_of_le Z55 Ma.out)) | (dsimp only; exact Nat.ne_of_lt (Nat.lt_of_lt_of_le Z55 Ma.out))) : P := h
theorem Z100 {P : Prop} (h : P := by first | exact Nat.ne_of_lt (Nat.lt_of_lt_of_le Z56 Ja.out) | (rw [add_block]; exact Nat.ne_of_lt (Nat.lt_of_lt_of_le Z56 Ja.out)) | (show (Addr.add _ _).block ≠ _; rw [add_block]; exact Nat.ne_of_lt (Nat.lt_of_lt_of_le Z56 Ja.out)) | (dsimp only; exact Nat.ne_of_lt (Nat.lt_of_lt_of_le Z56 Ja.out))) : P := h
theorem Z101 {P : Prop} (h : P := by first | exact Nat.ne_of_lt (Nat.lt_of_lt_of_le Z57 Ja.out) | (rw [add_block]; exact Nat.ne_of_lt (Nat.lt_of_lt_of_le Z57 Ja.out)) | (show (Addr.add _ _).block ≠ _; rw [add_block]; exact Nat.ne_of_lt (Nat.lt_of_lt_of_le Z57 Ja.out)) | (dsimp only; exact Nat.ne_of_lt (Nat.lt_of_lt_of_le Z57 Ja.out))) : P := h
theorem Z102 {P : Prop} (h : P := by first | exact Nat.ne_of_lt (Nat.lt_of_lt_of_le Z58 Ja.out) | (rw [add_block]; exact Nat.ne_of_lt (Nat.lt_of_lt_of_le Z58 Ja.out)) | (show (Addr.add _ _).block ≠ _; rw [add_block]; exact Nat.ne_of_lt (Nat.lt_of_lt_of_le Z58 Ja.out)) | (dsimp only; exact Nat.ne_of_lt (Nat.lt_of_lt_of_le Z58 Ja.out))) : P := h
theorem Z103 {P : Prop} (h : P := by first | exact Nat.ne_of_lt (Nat.lt_of_lt_of_le Z59 Ja.out) | (rw [add_block]; exact Nat.ne_of_lt (Nat.lt_of_lt_of_le Z59 Ja.out)) | (show (Addr.add _ _).block ≠ _; rw [add_block]; exact Nat.ne_of_lt (Nat.lt_of_lt_of_le Z59 Ja.out)) | (dsimp only; exact Nat.ne_of_lt (Nat.lt_of_lt_of_le Z59 Ja.out))) : P := h
theorem Z104 {P : Prop} (h : P := by first | exact Nat.ne_of_lt (Nat.lt_of_lt_of_le Z60 Ja.out) | (rw [add_block]; exact Nat.ne_of_lt (Nat.lt_of_lt_of_le Z60 Ja.out)) | (show (Addr.add _ _).block ≠ _; rw [add_block]; exact Nat.ne_of_lt (Nat.lt_of_lt_of_le Z60 Ja.out)) | (dsimp only; exact Nat.ne_of_lt (Nat.lt_of_lt_of_le Z60 Ja.out))) : P := h
theorem Z105 {P : Prop} (h : P := by first | exact Nat.ne_of_lt (Nat.lt_of_lt_of_le Z61 Ja.out) | (rw [add_block]; exact Nat.ne_of_lt (Nat.lt_of_lt_of_le Z61 Ja.out)) | (show (Addr.add _ _).block ≠ _; rw [add_block]; exact Nat.ne_of_lt (Nat.lt_of_lt_of_le Z61 Ja.out)) | (dsimp only; exact Nat.ne_of_lt (Nat.lt_of_lt_of_le Z61 Ja.out))) : P := h
theorem Z106 {P : Prop} (h : P := by have h_ := Kd.R_ne Xa.out Ka.out (by decide); intro e_; exact h_ (by rw [e_]; rfl)) : P := h
theorem Z107 {P : Prop} (h : P := by have h_ := Kd.R_ne Xa.out Ua.out (by decide); intro e_; exact h_ (by rw [e_]; rfl)) : P := h
theorem Z108 {P : Prop} (h : P := by have h_ := Kd.R_ne Xa.out Ma.out (by decide); intro e_; exact h_ (by rw [e_]; rfl)) : P := h
theorem Z109 {P : Prop} (h : P := by have h_ := Kd.R_ne Mb.out Ka.out (by decide); intro e_; exact h_ (by rw [e_]; rfl)) : P := h
theorem Z110 {P : Prop} (h : P := by have h_ := Kd.R_ne Mb.out Ua.out (by decide); intro e_; exact h_ (by rw [e_]; rfl)) : P := h
theorem Z111 {P : Prop} (h : P := by have h_ := Kd.R_ne Mb.out Xa.out (by decide); intro e_; exact h_ (by rw [e_]; rfl)) : P := h
theorem Z112 {P : Prop} (h : P := by have h_ := Kd.R_ne Mb.out Kb.out (by decide); intro e_; exact h_ (by rw [e_]; rfl)) : P := h
theorem Z113 {P : Prop} (h : P := by have h_ := Kd.R_ne Mb.out Jc.out (by decide); intro e_; exact h_ (by rw [e_]; rfl)) : P := h
theorem Z114 {P : Prop} (h : P := by have h_ := Kd.R_ne Xa.out Ja.out (by decide); intro e_; exact h_ (by rw [e_]; rfl)) : P := h
end Go.Proofs.Ytpkdkhhknmlpjaa.ZFnTakenAdds
