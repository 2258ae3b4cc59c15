-- by a program of this session's: scripts that stand several times in the printed texts
import Derived.Test.YtolphjnajopknaaProg
import Derived.Below
import Derived.Deep.Draws
import Derived.Deep.AppendLies
import Derived.Maps.AppendAt
import Derived.OwnWalk
import Derived.Laws.BytesArg
import Derived.Laws.MakeOwn
import Derived.Laws.OwnMore
import Derived.Deep.OwnRows
import Derived.Tactics
import Derived.Lib.ConvBytes
import Derived.Laws.Slices
import Derived.WalkKit
import Derived.KernelRfl
import Derived.RowKit3
import Derived.Deep.LoopGhost
import Derived.Deep.QuietTactic
import Derived.BigQuiet
import Derived.WideLaws
import Derived.Deep.DeepCutAuto
import Derived.Deep.CutBlock
import Derived.Deep.RegionHeld3
import Derived.Laws.Rows
import Derived.Lib.AppendStr
import Derived.ArgAppend
import Derived.Laws.IdiomCopy
import Derived.OrdersHeld
import Derived.Laws.BitsLemmas
import Derived.RowKit
import Derived.Test.YtolphjnajopknaaVWords
import Derived.Test.YtolphjnajopknaaVOpen
import Derived.Test.YtolphjnajopknaaVMap
import Derived.Test.YtolphjnajopknaaWWords
import Derived.Test.YtolphjnajopknaaWLast
import Derived.Test.YtolphjnajopknaaWTab
import Derived.Test.YtolphjnajopknaaWFour
import Derived.Test.YtolphjnajopknaaWQPut
import Derived.Test.YtolphjnajopknaaWApart
import Derived.Test.YtolphjnajopknaaWArr
import Derived.Test.YtolphjnajopknaaWZeros
import Derived.Test.YtolphjnajopknaaWFoot
import Derived.Test.YtolphjnajopknaaWKept
import Derived.Test.YtolphjnajopknaaWShare
import Derived.Test.YtolphjnajopknaaWN
import Derived.Test.YtolphjnajopknaaWFootNe
import Derived.Test.YtolphjnajopknaaWAt
import Derived.Test.YtolphjnajopknaaWEqStruct
import Derived.Test.YtolphjnajopknaaWRepsOne
import Derived.Test.YtolphjnajopknaaWInv
import Derived.Test.YtolphjnajopknaaWInvWords
import Derived.Test.YtolphjnajopknaaWGuard
import Derived.Test.YtolphjnajopknaaWNEv
import Derived.Test.YtolphjnajopknaaWMore
namespace Go.Proofs.Ytolphjnajopknaa.ZFnExactTreeRebase
open Go.RowKit Go.Proofs.YtolphjnajopknaaW.PrintWords Go.Proofs.YtolphjnajopknaaW.PrintLast Go.Proofs.YtolphjnajopknaaW.PrintMore Go.Proofs.YtolphjnajopknaaV
theorem Z0 {P : Prop} (h : P := by refine pk_ ?_; refine blk_put (cs := #[.int .i64 ((rd_T48 l0_5 Ja).f0), .int .i64 ((rd_T48 l0_5 Ja).f1.f0), .int .i64 ((rd_T48 l0_5 Ja).f1.f1.f0), .int .i64 ((rd_T48 l0_5 Ja).f1.f1.f1), .int .i64 ((rd_T48 l0_5 Ja).f1.f1.f2), .slice none 0 0]) ?_ 5 _ rfl; refine pk_ ?_; refine blk_put (cs := #[.int .i64 ((rd_T48 l0_5 Ja).f0), .int .i64 ((rd_T48 l0_5 Ja).f1.f0), .int .i64 ((rd_T48 l0_5 Ja).f1.f1.f0), .int .i64 ((rd_T48 l0_5 Ja).f1.f1.f1), .int .i64 0, .slice none 0 0]) ?_ 4 _ rfl; refine pk_ ?_; refine blk_put (cs := #[.int .i64 ((rd_T48 l0_5 Ja).f0), .int .i64 ((rd_T48 l0_5 Ja).f1.f0), .int .i64 ((rd_T48 l0_5 Ja).f1.f1.f0), .int .i64 0, .int .i64 0, .slice none 0 0]) ?_ 3 _ rfl; refine pk_ ?_; refine blk_put (cs := #[.int .i64 ((rd_T48 l0_5 Ja).f0), .int .i64 ((rd_T48 l0_5 Ja).f1.f0), .int .i64 0, .int .i64 0, .int .i64 0, .slice none 0 0]) ?_ 2 _ rfl; refine pk_ ?_; refine blk_put (cs := #[.int .i64 ((rd_T48 l0_5 Ja).f0), .int .i64 0, .int .i64 0, .int .i64 0, .int .i64 0, .slice none 0 0]) ?_ 1 _ rfl; refine pk_ ?_; refine blk_put (cs := #[.int .i64 0, .int .i64 0, .int .i64 0, .int .i64 0, .int .i64 0, .slice none 0 0]) ?_ 0 _ rfl; refine pk_ ?_; exact Ua.out) : P := h
theorem Z1 {P : Prop} (h : P := by refine pk_ ?_; refine blk_put (cs := #[.int .i64 0, .int .i64 0, .int .i64 0]) ?_ 2 _ rfl; refine pk_ ?_; refine blk_put (cs := #[.int .i64 0, .int .i64 0, .int .i64 0]) ?_ 1 _ rfl; refine pk_ ?_; refine blk_put (cs := #[.int .i64 0, .int .i64 0, .int .i64 0]) ?_ 0 _ rfl; refine pk_ ?_; exact BK165.out) : P := h
theorem Z2 {P : Prop} (h : P := by refine pk_ ?_; refine blk_put (cs := #[.int .i64 0, .int .i64 0, .int .i64 0]) ?_ 2 _ rfl; refine pk_ ?_; refine blk_put (cs := #[.int .i64 0, .int .i64 0, .int .i64 0]) ?_ 1 _ rfl; refine pk_ ?_; refine blk_put (cs := #[.int .i64 0, .int .i64 0, .int .i64 0]) ?_ 0 _ rfl; refine pk_ ?_; exact BK366.out) : P := h
theorem Z3 {P : Prop} (h : P := by refine pk_ ?_; refine blk_far ?_ Jb.out _; refine pk_ ?_; refine blk_far ?_ Jb.out _; refine pk_ ?_; refine blk_far ?_ Jb.out _; refine pk_ ?_; refine blk_far ?_ Jb.out _; refine pk_ ?_; refine blk_far ?_ Jb.out _; refine pk_ ?_; refine blk_far ?_ Jb.out _; refine pk_ ?_; exact Oa.out) : P := h
theorem Z4 {P : Prop} (h : P := by (try simp only [List.map_toArray, List.map_cons, List.map_nil]); first | done | (rw [show Xn.length = Kb.length from (Kd.R_reads' Oe.out).1.symm, show Jo.length = Uc.length from (Kd.S_reads' Ug.out).1.symm] <;> rfl) | rfl | (simp only [List.length_drop, List.length_take]; rfl)) : P := h
theorem Z5 {P : Prop} (h : P := by repeat (first | (with_reducible exact HR413_5.out) | (with_reducible refine Kd.C_alloc ?_ _) | (with_reducible refine Kd.C_drewN ?_ _) | (with_reducible refine Kd.C_drew ?_) | exact HR413_5.out)) : P := h
theorem Z6 {P : Prop} (h : P := by repeat (first | (with_reducible first | exact HK.out | apply Kept.alloc | apply Kept.drewN | apply Kept.drew | refine Kept.setCell ?_ (.inr GW461.out) _) | exact HK.out)) : P := h
theorem Z7 {P : Prop} (h : P := by rintro w' ⟨s0, s1, s2, s3, s4, s5, s6, s7, s8, s9, s10, s11, s12, s13, s14, s15, s16, s17, s18, s19, s20, s21, s22, s23⟩; go_simp; with_reducible rfl) : P := h
theorem Z8 {P : Prop} (h : P := by (try simp only [List.map_toArray, List.map_cons, List.map_nil]); first | done | rfl | (simp only [List.length_drop, List.length_take]; rfl)) : P := h
theorem Z9 {P : Prop} (h : P := by repeat (first | (with_reducible first | exact HK.out | apply Kept.alloc | apply Kept.drewN | apply Kept.drew) | exact HK.out)) : P := h
theorem Z10 {P : Prop} (h : P := by first | (rw [add_block]; exact hn318_0) | (show (Addr.add _ _).block ≠ _; rw [add_block]; exact hn318_0) | exact hn318_0) : P := h
theorem Z11 {P : Prop} (h : P := by first | (rw [add_block]; exact hn318_1) | (show (Addr.add _ _).block ≠ _; rw [add_block]; exact hn318_1) | exact hn318_1) : P := h
theorem Z12 {P : Prop} (h : P := by first | (rw [add_block]; exact hn318_2) | (show (Addr.add _ _).block ≠ _; rw [add_block]; exact hn318_2) | exact hn318_2) : P := h
theorem Z13 {P : Prop} (h : P := by first | (rw [add_block]; exact hn318_3) | (show (Addr.add _ _).block ≠ _; rw [add_block]; exact hn318_3) | exact hn318_3) : P := h
theorem Z14 {P : Prop} (h : P := by first | (rw [add_block]; exact hn318_4) | (show (Addr.add _ _).block ≠ _; rw [add_block]; exact hn318_4) | exact hn318_4) : P := h
theorem Z15 {P : Prop} (h : P := by first | (rw [add_block]; exact hn318_5) | (show (Addr.add _ _).block ≠ _; rw [add_block]; exact hn318_5) | exact hn318_5) : P := h
theorem Z16 {P : Prop} (h : P := by rintro w' ⟨s0, s1, s2, s3, s4, s5, s6, s7, s8, s9, s10, s11, s12, s13, s14, s15, s16, s17⟩; go_simp; with_reducible rfl) : P := h
theorem Z17 {P : Prop} (h : P := by rintro w' ⟨s0, s1, s2, s3, s4, s5, s6, s7, s8, s9, s10, s11, s12, s13, s14, s15, s16⟩; go_simp; with_reducible rfl) : P := h
theorem Z18 {P : Prop} (h : P := by rintro w' ⟨s0, s1, s2, s3, s4, s5, s6, s7, s8, s9, s10, s11, s12, s13, s14, s15⟩; go_simp; with_reducible rfl) : P := h
theorem Z19 {P : Prop} (h : P := by simp only [putAll, Act.put, List.setIfInBounds_toArray, List.set_cons_zero, List.set_cons_succ]) : P := h
theorem Z20 {P : Prop} (h : P := by have := World.block_lt_of_cell? _ _ hx318_0; first | rwa [add_block] at this | exact this) : P := h
theorem Z21 {P : Prop} (h : P := by rintro w' ⟨s0, s1, s2, s3, s4, s5, s6, s7, s8, s9, s10, s11⟩; go_simp; with_reducible rfl) : P := h
theorem Z22 {P : Prop} (h : P := by rintro w' ⟨s0, s1, s2, s3, s4, s5, s6, s7, s8, s9, s10⟩; go_simp; with_reducible rfl) : P := h
theorem Z23 {P : Prop} (h : P := by rintro w' ⟨s0, s1, s2, s3, s4, s5⟩; go_simp; with_reducible rfl) : P := h
theorem Z24 {P : Prop} (h : P := by rintro w' ⟨s0, s1, s2, s3, s4⟩; go_simp; with_reducible rfl) : P := h
theorem Z25 {P : Prop} (h : P := by rintro w' ⟨s0, s1, s2⟩; go_simp; with_reducible rfl) : P := h
theorem Z26 {P : Prop} (h : P := by first | (with_reducible assumption) | assumption) : P := h
theorem Z27 {P : Prop} (h : P := by first | rfl | (simp; done) | (simp [*]; done)) : P := h
theorem Z28 {P : Prop} (h : P := by first | rfl | (go_simp; done) | simp) : P := h
theorem Z29 {P : Prop} (h : P := by rw [hw]; exact HP12.2) : P := h
theorem Z30 {P : Prop} (h : P := by rw [hr_.out]; decide) : P := h
theorem Z31 {P : Prop} (h : P := by have h_ := Kd.R_ne Xa.out Ja.out (by decide); intro e_; exact h_ (by rw [e_]; rfl)) : P := h
theorem Z32 {P : Prop} (h : P := by have h_ := Kd.R_ne Xa.out Ma.out (by decide); intro e_; exact h_ (by rw [e_]; rfl)) : P := h
theorem Z33 {P : Prop} (h : P := by have h_ := Kd.R_ne Xa.out Ka.out (by decide); intro e_; exact h_ (by rw [e_]; rfl)) : P := h
theorem Z34 {P : Prop} (h : P := by have h_ := Kd.R_ne Mb.out Ja.out (by decide); intro e_; exact h_ (by rw [e_]; rfl)) : P := h
theorem Z35 {P : Prop} (h : P := by have h_ := Kd.R_ne Mb.out Ua.out (by decide); intro e_; exact h_ (by rw [e_]; rfl)) : P := h
theorem Z36 {P : Prop} (h : P := by have h_ := Kd.R_ne Mb.out Oa.out (by decide); intro e_; exact h_ (by rw [e_]; rfl)) : P := h
theorem Z37 {P : Prop} (h : P := by have h_ := Kd.S_ne Jb.out Ma.out (by decide); intro e_; exact h_ (by rw [e_]; rfl)) : P := h
theorem Z38 {P : Prop} (h : P := by have h_ := Kd.S_ne Jb.out Xa.out (by decide); intro e_; exact h_ (by rw [e_]; rfl)) : P := h
theorem Z39 {P : Prop} (h : P := by have h_ := Kd.S_ne Jb.out Ka.out (by decide); intro e_; exact h_ (by rw [e_]; rfl)) : P := h
end Go.Proofs.Ytolphjnajopknaa.ZFnExactTreeRebase
