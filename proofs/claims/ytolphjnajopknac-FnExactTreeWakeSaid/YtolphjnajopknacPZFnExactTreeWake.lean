-- by a program of this session's: scripts that stand several times in the printed texts
import Derived.Test.YtolphjnajopknacProg
import Derived.Below
import Derived.Deep.Draws
import Derived.Deep.AppendLies
import Derived.Maps.AppendAt
import Derived.OwnWalk
import Derived.Laws.BytesArg
import Derived.Laws.MakeOwn
import Derived.Laws.OwnMore
import Derived.Deep.OwnRows
import Derived.Tactics
import Derived.Lib.ConvBytes
import Derived.Laws.Slices
import Derived.WalkKit
import Derived.KernelRfl
import Derived.RowKit3
import Derived.Deep.LoopGhost
import Derived.Deep.QuietTactic
import Derived.BigQuiet
import Derived.WideLaws
import Derived.Deep.DeepCutAuto
import Derived.Deep.CutBlock
import Derived.Deep.RegionHeld3
import Derived.Laws.Rows
import Derived.Lib.AppendStr
import Derived.ArgAppend
import Derived.Laws.IdiomCopy
import Derived.OrdersHeld
import Derived.Laws.BitsLemmas
import Derived.RowKit
import Derived.Test.YtolphjnajopknacVWords
import Derived.Test.YtolphjnajopknacVOpen
import Derived.Test.YtolphjnajopknacVMap
import Derived.Test.YtolphjnajopknacWWords
import Derived.Test.YtolphjnajopknacWLast
import Derived.Test.YtolphjnajopknacWTab
import Derived.Test.YtolphjnajopknacWFour
import Derived.Test.YtolphjnajopknacWQPut
import Derived.Test.YtolphjnajopknacWApart
import Derived.Test.YtolphjnajopknacWArr
import Derived.Test.YtolphjnajopknacWZeros
import Derived.Test.YtolphjnajopknacWFoot
import Derived.Test.YtolphjnajopknacWKept
import Derived.Test.YtolphjnajopknacWShare
import Derived.Test.YtolphjnajopknacWN
import Derived.Test.YtolphjnajopknacWFootNe
import Derived.Test.YtolphjnajopknacWAt
import Derived.Test.YtolphjnajopknacWEqStruct
import Derived.Test.YtolphjnajopknacWRepsOne
import Derived.Test.YtolphjnajopknacWInv
import Derived.Test.YtolphjnajopknacWInvWords
import Derived.Test.YtolphjnajopknacWGuard
import Derived.Test.YtolphjnajopknacWNEv
import Derived.Test.YtolphjnajopknacWMore
namespace Go.Proofs.Ytolphjnajopknac.ZFnExactTreeWake
open Go.RowKit Go.Proofs.YtolphjnajopknacW.PrintWords Go.Proofs.YtolphjnajopknacW.PrintLast Go.Proofs.YtolphjnajopknacW.PrintMore Go.Proofs.YtolphjnajopknacV
theorem Z0 {P : Prop} (h : P := by refine pk_ ?_; refine blk_put (cs := #[.int .i64 ((rd_T50 l0_5 Ja).f0), .int .i64 ((rd_T50 l0_5 Ja).f1.f0), .int .i64 ((rd_T50 l0_5 Ja).f1.f1.f0), .int .i64 ((rd_T50 l0_5 Ja).f1.f1.f1), .int .i64 ((rd_T50 l0_5 Ja).f1.f1.f2), .slice none 0 0]) ?_ 5 _ rfl; refine pk_ ?_; refine blk_put (cs := #[.int .i64 ((rd_T50 l0_5 Ja).f0), .int .i64 ((rd_T50 l0_5 Ja).f1.f0), .int .i64 ((rd_T50 l0_5 Ja).f1.f1.f0), .int .i64 ((rd_T50 l0_5 Ja).f1.f1.f1), .int .i64 0, .slice none 0 0]) ?_ 4 _ rfl; refine pk_ ?_; refine blk_put (cs := #[.int .i64 ((rd_T50 l0_5 Ja).f0), .int .i64 ((rd_T50 l0_5 Ja).f1.f0), .int .i64 ((rd_T50 l0_5 Ja).f1.f1.f0), .int .i64 0, .int .i64 0, .slice none 0 0]) ?_ 3 _ rfl; refine pk_ ?_; refine blk_put (cs := #[.int .i64 ((rd_T50 l0_5 Ja).f0), .int .i64 ((rd_T50 l0_5 Ja).f1.f0), .int .i64 0, .int .i64 0, .int .i64 0, .slice none 0 0]) ?_ 2 _ rfl; refine pk_ ?_; refine blk_put (cs := #[.int .i64 ((rd_T50 l0_5 Ja).f0), .int .i64 0, .int .i64 0, .int .i64 0, .int .i64 0, .slice none 0 0]) ?_ 1 _ rfl; refine pk_ ?_; refine blk_put (cs := #[.int .i64 0, .int .i64 0, .int .i64 0, .int .i64 0, .int .i64 0, .slice none 0 0]) ?_ 0 _ rfl; refine pk_ ?_; exact Ua.out) : P := h
theorem Z1 {P : Prop} (h : P := by refine pk_ ?_; refine blk_put (cs := #[.int .i64 Ud, .int .i64 Ke, .int .i64 Oe, .int .i64 Ue, .slice Jb Ua.length Xa, .slice none 0 0]) ?_ 5 _ rfl; refine pk_ ?_; refine blk_put (cs := #[.int .i64 Ud, .int .i64 Ke, .int .i64 Oe, .int .i64 Ue, .slice none 0 0, .slice none 0 0]) ?_ 4 _ rfl; refine pk_ ?_; refine blk_put (cs := #[.int .i64 Ud, .int .i64 Ke, .int .i64 Oe, .int .i64 0, .slice none 0 0, .slice none 0 0]) ?_ 3 _ rfl; refine pk_ ?_; refine blk_put (cs := #[.int .i64 Ud, .int .i64 Ke, .int .i64 0, .int .i64 0, .slice none 0 0, .slice none 0 0]) ?_ 2 _ rfl; refine pk_ ?_; refine blk_put (cs := #[.int .i64 Ud, .int .i64 0, .int .i64 0, .int .i64 0, .slice none 0 0, .slice none 0 0]) ?_ 1 _ rfl; refine pk_ ?_; refine blk_put (cs := #[.int .i64 0, .int .i64 0, .int .i64 0, .int .i64 0, .slice none 0 0, .slice none 0 0]) ?_ 0 _ rfl; refine pk_ ?_; exact Ka.out) : P := h
theorem Z2 {P : Prop} (h : P := by refine pk_ ?_; refine blk_put (cs := #[.int .i64 Xf, .int .i64 Kg, .int .i64 Ug, .int .i64 Oh, .slice Kh Jg.length Mg, .slice none 0 0]) ?_ 5 _ rfl; refine pk_ ?_; refine blk_put (cs := #[.int .i64 Xf, .int .i64 Kg, .int .i64 Ug, .int .i64 Oh, .slice none 0 0, .slice none 0 0]) ?_ 4 _ rfl; refine pk_ ?_; refine blk_put (cs := #[.int .i64 Xf, .int .i64 Kg, .int .i64 Ug, .int .i64 0, .slice none 0 0, .slice none 0 0]) ?_ 3 _ rfl; refine pk_ ?_; refine blk_put (cs := #[.int .i64 Xf, .int .i64 Kg, .int .i64 0, .int .i64 0, .slice none 0 0, .slice none 0 0]) ?_ 2 _ rfl; refine pk_ ?_; refine blk_put (cs := #[.int .i64 Xf, .int .i64 0, .int .i64 0, .int .i64 0, .slice none 0 0, .slice none 0 0]) ?_ 1 _ rfl; refine pk_ ?_; refine blk_put (cs := #[.int .i64 0, .int .i64 0, .int .i64 0, .int .i64 0, .slice none 0 0, .slice none 0 0]) ?_ 0 _ rfl; refine pk_ ?_; exact Mf.out) : P := h
theorem Z3 {P : Prop} (h : P := by refine pk_ ?_; refine blk_put (cs := #[.int .i64 0, .int .i64 0, .int .i64 0, .int .i64 0, .slice none 0 0, .slice none 0 0]) ?_ 5 _ rfl; refine pk_ ?_; refine blk_put (cs := #[.int .i64 0, .int .i64 0, .int .i64 0, .int .i64 0, .slice none 0 0, .slice none 0 0]) ?_ 4 _ rfl; refine pk_ ?_; refine blk_put (cs := #[.int .i64 0, .int .i64 0, .int .i64 0, .int .i64 0, .slice none 0 0, .slice none 0 0]) ?_ 3 _ rfl; refine pk_ ?_; refine blk_put (cs := #[.int .i64 0, .int .i64 0, .int .i64 0, .int .i64 0, .slice none 0 0, .slice none 0 0]) ?_ 2 _ rfl; refine pk_ ?_; refine blk_put (cs := #[.int .i64 0, .int .i64 0, .int .i64 0, .int .i64 0, .slice none 0 0, .slice none 0 0]) ?_ 1 _ rfl; refine pk_ ?_; refine blk_put (cs := #[.int .i64 0, .int .i64 0, .int .i64 0, .int .i64 0, .slice none 0 0, .slice none 0 0]) ?_ 0 _ rfl; refine pk_ ?_; exact Ka.out) : P := h
theorem Z4 {P : Prop} (h : P := by refine pk_ ?_; refine blk_put (cs := #[.int .i64 0, .int .i64 0, .int .i64 0, .int .i64 0, .slice none 0 0]) ?_ 4 _ rfl; refine pk_ ?_; refine blk_put (cs := #[.int .i64 0, .int .i64 0, .int .i64 0, .int .i64 0, .slice none 0 0]) ?_ 3 _ rfl; refine pk_ ?_; refine blk_put (cs := #[.int .i64 0, .int .i64 0, .int .i64 0, .int .i64 0, .slice none 0 0]) ?_ 2 _ rfl; refine pk_ ?_; refine blk_put (cs := #[.int .i64 0, .int .i64 0, .int .i64 0, .int .i64 0, .slice none 0 0]) ?_ 1 _ rfl; refine pk_ ?_; refine blk_put (cs := #[.int .i64 0, .int .i64 0, .int .i64 0, .int .i64 0, .slice none 0 0]) ?_ 0 _ rfl; refine pk_ ?_; exact Ua.out) : P := h
theorem Z5 {P : Prop} (h : P := by refine pk_ ?_; refine blk_put (cs := #[.int .i64 0, .int .i64 0, .int .i64 0, .int .i64 0, .slice none 0 0]) ?_ 4 _ rfl; refine pk_ ?_; refine blk_put (cs := #[.int .i64 0, .int .i64 0, .int .i64 0, .int .i64 0, .slice none 0 0]) ?_ 3 _ rfl; refine pk_ ?_; refine blk_put (cs := #[.int .i64 0, .int .i64 0, .int .i64 0, .int .i64 0, .slice none 0 0]) ?_ 2 _ rfl; refine pk_ ?_; refine blk_put (cs := #[.int .i64 0, .int .i64 0, .int .i64 0, .int .i64 0, .slice none 0 0]) ?_ 1 _ rfl; refine pk_ ?_; refine blk_put (cs := #[.int .i64 0, .int .i64 0, .int .i64 0, .int .i64 0, .slice none 0 0]) ?_ 0 _ rfl; refine pk_ ?_; exact Xa.out) : P := h
theorem Z6 {P : Prop} (h : P := by refine pk_ ?_; refine blk_far ?_ Jb.out _; refine pk_ ?_; refine blk_far ?_ Jb.out _; refine pk_ ?_; refine blk_far ?_ Jb.out _; refine pk_ ?_; refine blk_far ?_ Jb.out _; refine pk_ ?_; refine blk_far ?_ Jb.out _; refine pk_ ?_; refine blk_far ?_ Jb.out _; refine pk_ ?_; exact Oa.out) : P := h
theorem Z7 {P : Prop} (h : P := by refine pk_ ?_; refine blk_far ?_ Kk.out _; refine pk_ ?_; refine blk_far ?_ Kk.out _; refine pk_ ?_; refine blk_far ?_ Kk.out _; refine pk_ ?_; refine blk_far ?_ Kk.out _; refine pk_ ?_; refine blk_far ?_ Kk.out _; refine pk_ ?_; refine blk_far ?_ Kk.out _; refine pk_ ?_; exact Ja.out) : P := h
theorem Z8 {P : Prop} (h : P := by refine pk_ ?_; refine blk_far ?_ Jk.out _; refine pk_ ?_; refine blk_far ?_ Jk.out _; refine pk_ ?_; refine blk_far ?_ Jk.out _; refine pk_ ?_; refine blk_far ?_ Jk.out _; refine pk_ ?_; refine blk_far ?_ Jk.out _; refine pk_ ?_; refine blk_far ?_ Jk.out _; refine pk_ ?_; exact Ma.out) : P := h
theorem Z9 {P : Prop} (h : P := by refine pk_ ?_; refine blk_far ?_ Uk.out _; refine pk_ ?_; refine blk_far ?_ Uk.out _; refine pk_ ?_; refine blk_far ?_ Uk.out _; refine pk_ ?_; refine blk_far ?_ Uk.out _; refine pk_ ?_; refine blk_far ?_ Uk.out _; refine pk_ ?_; refine blk_far ?_ Uk.out _; refine pk_ ?_; exact Ub.out) : P := h
theorem Z10 {P : Prop} (h : P := by refine pk_ ?_; refine blk_far ?_ Jm.out _; refine pk_ ?_; refine blk_far ?_ Jm.out _; refine pk_ ?_; refine blk_far ?_ Jm.out _; refine pk_ ?_; refine blk_far ?_ Jm.out _; refine pk_ ?_; refine blk_far ?_ Jm.out _; refine pk_ ?_; refine blk_far ?_ Jm.out _; refine pk_ ?_; exact Ma.out) : P := h
theorem Z11 {P : Prop} (h : P := by refine pk_ ?_; refine blk_far ?_ Km.out _; refine pk_ ?_; refine blk_far ?_ Km.out _; refine pk_ ?_; refine blk_far ?_ Km.out _; refine pk_ ?_; refine blk_far ?_ Km.out _; refine pk_ ?_; refine blk_far ?_ Km.out _; refine pk_ ?_; refine blk_far ?_ Km.out _; refine pk_ ?_; exact Ka.out) : P := h
theorem Z12 {P : Prop} (h : P := by repeat (first | (with_reducible first | exact HK.out | apply Kept.alloc | apply Kept.drewN | apply Kept.drew | refine Kept.setCell ?_ (.inr GW548.out) _) | exact HK.out)) : P := h
theorem Z13 {P : Prop} (h : P := by (try simp only [List.map_toArray, List.map_cons, List.map_nil]); first | done | rfl | (simp only [List.length_drop, List.length_take]; rfl)) : P := h
theorem Z14 {P : Prop} (h : P := by repeat (first | (with_reducible first | exact HK.out | apply Kept.alloc | apply Kept.drewN | apply Kept.drew) | exact HK.out)) : P := h
theorem Z15 {P : Prop} (h : P := by first | (rw [add_block]; exact hn236_0) | (show (Addr.add _ _).block ≠ _; rw [add_block]; exact hn236_0) | exact hn236_0) : P := h
theorem Z16 {P : Prop} (h : P := by first | (rw [add_block]; exact hn236_1) | (show (Addr.add _ _).block ≠ _; rw [add_block]; exact hn236_1) | exact hn236_1) : P := h
theorem Z17 {P : Prop} (h : P := by first | (rw [add_block]; exact hn236_2) | (show (Addr.add _ _).block ≠ _; rw [add_block]; exact hn236_2) | exact hn236_2) : P := h
theorem Z18 {P : Prop} (h : P := by first | (rw [add_block]; exact hn236_3) | (show (Addr.add _ _).block ≠ _; rw [add_block]; exact hn236_3) | exact hn236_3) : P := h
theorem Z19 {P : Prop} (h : P := by first | (rw [add_block]; exact hn236_4) | (show (Addr.add _ _).block ≠ _; rw [add_block]; exact hn236_4) | exact hn236_4) : P := h
theorem Z20 {P : Prop} (h : P := by first | (rw [add_block]; exact hn373_0) | (show (Addr.add _ _).block ≠ _; rw [add_block]; exact hn373_0) | exact hn373_0) : P := h
theorem Z21 {P : Prop} (h : P := by first | (rw [add_block]; exact hn373_1) | (show (Addr.add _ _).block ≠ _; rw [add_block]; exact hn373_1) | exact hn373_1) : P := h
theorem Z22 {P : Prop} (h : P := by first | (rw [add_block]; exact hn373_2) | (show (Addr.add _ _).block ≠ _; rw [add_block]; exact hn373_2) | exact hn373_2) : P := h
theorem Z23 {P : Prop} (h : P := by first | (rw [add_block]; exact hn373_3) | (show (Addr.add _ _).block ≠ _; rw [add_block]; exact hn373_3) | exact hn373_3) : P := h
theorem Z24 {P : Prop} (h : P := by first | (rw [add_block]; exact hn373_4) | (show (Addr.add _ _).block ≠ _; rw [add_block]; exact hn373_4) | exact hn373_4) : P := h
theorem Z25 {P : Prop} (h : P := by first | (rw [add_block]; exact hn373_5) | (show (Addr.add _ _).block ≠ _; rw [add_block]; exact hn373_5) | exact hn373_5) : P := h
theorem Z26 {P : Prop} (h : P := by first | (rw [add_block]; exact hn467_0) | (show (Addr.add _ _).block ≠ _; rw [add_block]; exact hn467_0) | exact hn467_0) : P := h
theorem Z27 {P : Prop} (h : P := by first | (rw [add_block]; exact hn467_1) | (show (Addr.add _ _).block ≠ _; rw [add_block]; exact hn467_1) | exact hn467_1) : P := h
theorem Z28 {P : Prop} (h : P := by first | (rw [add_block]; exact hn467_2) | (show (Addr.add _ _).block ≠ _; rw [add_block]; exact hn467_2) | exact hn467_2) : P := h
theorem Z29 {P : Prop} (h : P := by first | (rw [add_block]; exact hn467_3) | (show (Addr.add _ _).block ≠ _; rw [add_block]; exact hn467_3) | exact hn467_3) : P := h
theorem Z30 {P : Prop} (h : P := by first | (rw [add_block]; exact hn467_4) | (show (Addr.add _ _).block ≠ _; rw [add_block]; exact hn467_4) | exact hn467_4) : P := h
theorem Z31 {P : Prop} (h : P := by first | (rw [add_block]; exact hn500_0) | (show (Addr.add _ _).block ≠ _; rw [add_block]; exact hn500_0) | exact hn500_0) : P := h
theorem Z32 {P : Prop} (h : P := by first | (rw [add_block]; exact hn500_1) | (show (Addr.add _ _).block ≠ _; rw [add_block]; exact hn500_1) | exact hn500_1) : P := h
theorem Z33 {P : Prop} (h : P := by first | (rw [add_block]; exact hn500_2) | (show (Addr.add _ _).block ≠ _; rw [add_block]; exact hn500_2) | exact hn500_2) : P := h
theorem Z34 {P : Prop} (h : P := by first | (rw [add_block]; exact hn500_3) | (show (Addr.add _ _).block ≠ _; rw [add_block]; exact hn500_3) | exact hn500_3) : P := h
theorem Z35 {P : Prop} (h : P := by first | (rw [add_block]; exact hn500_4) | (show (Addr.add _ _).block ≠ _; rw [add_block]; exact hn500_4) | exact hn500_4) : P := h
theorem Z36 {P : Prop} (h : P := by first | (rw [add_block]; exact hn500_5) | (show (Addr.add _ _).block ≠ _; rw [add_block]; exact hn500_5) | exact hn500_5) : P := h
theorem Z37 {P : Prop} (h : P := by rintro w' ⟨s0, s1, s2, s3, s4, s5, s6, s7, s8, s9, s10, s11, s12, s13, s14, s15, s16, s17⟩; go_simp; with_reducible rfl) : P := h
theorem Z38 {P : Prop} (h : P := by rintro w' ⟨s0, s1, s2, s3, s4, s5, s6, s7, s8, s9, s10, s11, s12, s13, s14, s15, s16⟩; go_simp; with_reducible rfl) : P := h
theorem Z39 {P : Prop} (h : P := by rintro w' ⟨s0, s1, s2, s3, s4, s5, s6, s7, s8, s9, s10, s11, s12, s13, s14, s15⟩; go_simp; with_reducible rfl) : P := h
theorem Z40 {P : Prop} (h : P := by simp only [putAll, Act.put, List.setIfInBounds_toArray, List.set_cons_zero, List.set_cons_succ]) : P := h
theorem Z41 {P : Prop} (h : P := by have := World.block_lt_of_cell? _ _ hw198_0; first | rwa [add_block] at this | exact this) : P := h
theorem Z42 {P : Prop} (h : P := by have := World.block_lt_of_cell? _ _ hw198_1; first | rwa [add_block] at this | exact this) : P := h
theorem Z43 {P : Prop} (h : P := by have := World.block_lt_of_cell? _ _ hw198_2; first | rwa [add_block] at this | exact this) : P := h
theorem Z44 {P : Prop} (h : P := by have := World.block_lt_of_cell? _ _ hw198_3; first | rwa [add_block] at this | exact this) : P := h
theorem Z45 {P : Prop} (h : P := by have := World.block_lt_of_cell? _ _ hw198_4; first | rwa [add_block] at this | exact this) : P := h
theorem Z46 {P : Prop} (h : P := by have := World.block_lt_of_cell? _ _ hw198_5; first | rwa [add_block] at this | exact this) : P := h
theorem Z47 {P : Prop} (h : P := by have := World.block_lt_of_cell? _ _ hw199_0; first | rwa [add_block] at this | exact this) : P := h
theorem Z48 {P : Prop} (h : P := by have := World.block_lt_of_cell? _ _ hw199_1; first | rwa [add_block] at this | exact this) : P := h
theorem Z49 {P : Prop} (h : P := by have := World.block_lt_of_cell? _ _ hw199_2; first | rwa [add_block] at this | exact this) : P := h
theorem Z50 {P : Prop} (h : P := by have := World.block_lt_of_cell? _ _ hw199_3; first | rwa [add_block] at this | exact this) : P := h
theorem Z51 {P : Prop} (h : P := by have := World.block_lt_of_cell? _ _ hw199_4; first | rwa [add_block] at this | exact this) : P := h
theorem Z52 {P : Prop} (h : P := by have := World.block_lt_of_cell? _ _ hw199_5; first | rwa [add_block] at this | exact this) : P := h
theorem Z53 {P : Prop} (h : P := by have := World.block_lt_of_cell? _ _ hx236_0; first | rwa [add_block] at this | exact this) : P := h
theorem Z54 {P : Prop} (h : P := by have := World.block_lt_of_cell? _ _ hx373_0; first | rwa [add_block] at this | exact this) : P := h
theorem Z55 {P : Prop} (h : P := by rintro w' ⟨s0, s1, s2, s3, s4, s5, s6, s7, s8, s9, s10, s11⟩; go_simp; with_reducible rfl) : P := h
theorem Z56 {P : Prop} (h : P := by rintro w' ⟨s0, s1, s2, s3, s4, s5, s6, s7, s8, s9, s10⟩; go_simp; with_reducible rfl) : P := h
theorem Z57 {P : Prop} (h : P := by rintro w' ⟨s0, s1, s2, s3, s4, s5⟩; go_simp; with_reducible rfl) : P := h
theorem Z58 {P : Prop} (h : P := by rintro w' ⟨s0, s1, s2, s3, s4⟩; go_simp; with_reducible rfl) : P := h
theorem Z59 {P : Prop} (h : P := by rintro w' ⟨s0, s1, s2⟩; go_simp; with_reducible rfl) : P := h
theorem Z60 {P : Prop} (h : P := by first | (with_reducible assumption) | assumption) : P := h
theorem Z61 {P : Prop} (h : P := by first | rfl | (simp; done) | (simp [*]; done)) : P := h
theorem Z62 {P : Prop} (h : P := by first | rfl | (go_simp; done) | simp) : P := h
theorem Z63 {P : Prop} (h : P := by rw [hw]; exact HP12.2) : P := h
theorem Z64 {P : Prop} (h : P := by rw [hr_.out]; decide) : P := h
theorem Z65 {P : Prop} (h : P := by first | exact Nat.ne_of_lt (Nat.lt_of_lt_of_le Z41 Ja.out) | (rw [add_block]; exact Nat.ne_of_lt (Nat.lt_of_lt_of_le Z41 Ja.out)) | (show (Addr.add _ _).block ≠ _; rw [add_block]; exact Nat.ne_of_lt (Nat.lt_of_lt_of_le Z41 Ja.out)) | (dsimp only; exact Nat.ne_of_lt (Nat.lt_of_lt_of_le Z41 Ja.out))) : P := h
theorem Z66 {P : Prop} (h : P := by first | exact Nat.ne_of_lt (Nat.lt_of_lt_of_le Z42 Ja.out) | (rw [add_block]; exact Nat.ne_of_lt (Nat.lt_of_lt_of_le Z42 Ja.out)) | (show (Addr.add _ _).block ≠ _; rw [add_block]; exact Nat.ne_of_lt (Nat.lt_of_lt_of_le Z42 Ja.out)) | (dsimp only; exact Nat.ne_of_lt (Nat.lt_of_lt_of_le Z42 Ja.out))) : P := h
theorem Z67 {P : Prop} (h : P := by first | exact Nat.ne_of_lt (Nat.lt_of_lt_of_le Z43 Ja.out) | (rw [add_block]; exact Nat.ne_of_lt (Nat.lt_of_lt_of_le Z43 Ja.out)) | (show (Addr.add _ _).block ≠ _; rw [add_block]; exact Nat.ne_of_lt (Nat.lt_of_lt_of_le Z43 Ja.out)) | (dsimp only; exact Nat.ne_of_lt (Nat.lt_of_lt_of_le Z43 Ja.out))) : P := h
theorem Z68 {P : Prop} (h : P := by first | exact Nat.ne_of_lt (Nat.lt_of_lt_of_le Z44 Ja.out) | (rw [add_block]; exact Nat.ne_of_lt (Nat.lt_of_lt_of_le Z44 Ja.out)) | (show (Addr.add _ _).block ≠ _; rw [add_block]; exact Nat.ne_of_lt (Nat.lt_of_lt_of_le Z44 Ja.out)) | (dsimp only; exact Nat.ne_of_lt (Nat.lt_of_lt_of_le Z44 Ja.out))) : P := h
theorem Z69 {P : Prop} (h : P := by first | exact Nat.ne_of_lt (Nat.lt_of_lt_of_le Z45 Ja.out) | (rw [add_block]; exact Nat.ne_of_lt (Nat.lt_of_lt_of_le Z45 Ja.out)) | (show (Addr.add _ _).block ≠ _; rw [add_block]; exact Nat.ne_of_lt (Nat.lt_of_lt_of_le Z45 Ja.out)) | (dsimp only; exact Nat.ne_of_lt (Nat.lt_of_lt_of_le Z45 Ja.out))) : P := h
theorem Z70 {P : Prop} (h : P := by first | exact Nat.ne_of_lt (Nat.lt_of_lt_of_le Z46 Ja.out) | (rw [add_block]; exact Nat.ne_of_lt (Nat.lt_of_lt_of_le Z46 Ja.out)) | (show (Addr.add _ _).block ≠ _; rw [add_block]; exact Nat.ne_of_lt (Nat.lt_of_lt_of_le Z46 Ja.out)) | (dsimp only; exact Nat.ne_of_lt (Nat.lt_of_lt_of_le Z46 Ja.out))) : P := h
theorem Z71 {P : Prop} (h : P := by first | exact Nat.ne_of_lt (Nat.lt_of_lt_of_le Z47 Ja.out) | (rw [add_block]; exact Nat.ne_of_lt (Nat.lt_of_lt_of_le Z47 Ja.out)) | (show (Addr.add _ _).block ≠ _; rw [add_block]; exact Nat.ne_of_lt (Nat.lt_of_lt_of_le Z47 Ja.out)) | (dsimp only; exact Nat.ne_of_lt (Nat.lt_of_lt_of_le Z47 Ja.out))) : P := h
theorem Z72 {P : Prop} (h : P := by first | exact Nat.ne_of_lt (Nat.lt_of_lt_of_le Z48 Ja.out) | (rw [add_block]; exact Nat.ne_of_lt (Nat.lt_of_lt_of_le Z48 Ja.out)) | (show (Addr.add _ _).block ≠ _; rw [add_block]; exact Nat.ne_of_lt (Nat.lt_of_lt_of_le Z48 Ja.out)) | (dsimp only; exact Nat.ne_of_lt (Nat.lt_of_lt_of_le Z48 Ja.out))) : P := h
theorem Z73 {P : Prop} (h : P := by first | exact Nat.ne_of_lt (Nat.lt_of_lt_of_le Z49 Ja.out) | (rw [add_block]; exact Nat.ne_of_lt (Nat.lt_of_lt_of_le Z49 Ja.out)) | (show (Addr.add _ _).block ≠ _; rw [add_block]; exact Nat.ne_of_lt (Nat.lt_of_lt_of_le Z49 Ja.out)) | (dsimp only; exact Nat.ne_of_lt (Nat.lt_of_lt_of_le Z49 Ja.out))) : P := h
theorem Z74 {P : Prop} (h : P := by first | exact Nat.ne_of_lt (Nat.lt_of_lt_of_le Z50 Ja.out) | (rw [add_block]; exact Nat.ne_of_lt (Nat.lt_of_lt_of_le Z50 Ja.out)) | (show (Addr.add _ _).block ≠ _; rw [add_block]; exact Nat.ne_of_lt (Nat.lt_of_lt_of_le Z50 Ja.out)) | (dsimp only; exact Nat.ne_of_lt (Nat.lt_of_lt_of_le Z50 Ja.out))) : P := h
theorem Z75 {P : Prop} (h : P := by first | exact Nat.ne_of_lt (Nat.lt_of_lt_of_le Z51 Ja.out) | (rw [add_block]; exact Nat.ne_of_lt (Nat.lt_of_lt_of_le Z51 Ja.out)) | (show (Addr.add _ _).block ≠ _; rw [add_block]; exact Nat.ne_of_lt (Nat.lt_of_lt_of_le Z51 Ja.out)) | (dsimp only; exact Nat.ne_of_lt (Nat.lt_of_lt_of_le Z51 Ja.out))) : P := h
theorem Z76 {P : Prop} (h : P := by first | exact Nat.ne_of_lt (Nat.lt_of_lt_of_le Z52 Ja.out) | (rw [add_block]; exact Nat.ne_of_lt (Nat.lt_of_lt_of_le Z52 Ja.out)) | (show (Addr.add _ _).block ≠ _; rw [add_block]; exact Nat.ne_of_lt (Nat.lt_of_lt_of_le Z52 Ja.out)) | (dsimp only; exact Nat.ne_of_lt (Nat.lt_of_lt_of_le Z52 Ja.out))) : P := h
theorem Z77 {P : Prop} (h : P := by have h_ := Kd.R_ne Xa.out Ka.out (by decide); intro e_; exact h_ (by rw [e_]; rfl)) : P := h
theorem Z78 {P : Prop} (h : P := by have h_ := Kd.R_ne Xa.out Ua.out (by decide); intro e_; exact h_ (by rw [e_]; rfl)) : P := h
theorem Z79 {P : Prop} (h : P := by have h_ := Kd.R_ne Xa.out Ma.out (by decide); intro e_; exact h_ (by rw [e_]; rfl)) : P := h
theorem Z80 {P : Prop} (h : P := by have h_ := Kd.R_ne Ua.out Ma.out (by decide); intro e_; exact h_ (by rw [e_]; rfl)) : P := h
theorem Z81 {P : Prop} (h : P := by have h_ := Kd.R_ne Ua.out Xa.out (by decide); intro e_; exact h_ (by rw [e_]; rfl)) : P := h
theorem Z82 {P : Prop} (h : P := by have h_ := Kd.R_ne Ua.out Jb.out (by decide); intro e_; exact h_ (by rw [e_]; rfl)) : P := h
end Go.Proofs.Ytolphjnajopknac.ZFnExactTreeWake
