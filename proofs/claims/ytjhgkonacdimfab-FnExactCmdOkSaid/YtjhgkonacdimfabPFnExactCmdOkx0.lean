-- by a program of this session's, over the kit's words
import Derived.Test.YtjhgkonacdimfabProg
import Derived.Below
import Derived.Deep.Draws
import Derived.Deep.AppendLies
import Derived.Maps.AppendAt
import Derived.OwnWalk
import Derived.Laws.BytesArg
import Derived.Laws.MakeOwn
import Derived.Laws.OwnMore
import Derived.Deep.OwnRows
import Derived.Tactics
import Derived.Lib.ConvBytes
import Derived.Laws.Slices
import Derived.WalkKit
import Derived.KernelRfl
import Derived.RowKit3
import Derived.Deep.LoopGhost
import Derived.Deep.QuietTactic
import Derived.BigQuiet
import Derived.WideLaws
import Derived.Deep.DeepCutAuto
import Derived.Deep.CutBlock
import Derived.Deep.RegionHeld3
import Derived.Laws.Rows
import Derived.Lib.AppendStr
import Derived.ArgAppend
import Derived.Laws.IdiomCopy
import Derived.OrdersHeld
import Derived.Laws.BitsLemmas
import Derived.RowKit
import Derived.Test.YtjhgkonacdimfabVWords
import Derived.Test.YtjhgkonacdimfabVOpen
import Derived.Test.YtjhgkonacdimfabVMap
import Derived.Test.YtjhgkonacdimfabWWords
import Derived.Test.YtjhgkonacdimfabWLast
import Derived.Test.YtjhgkonacdimfabWTab
import Derived.Test.YtjhgkonacdimfabWFour
import Derived.Test.YtjhgkonacdimfabWQPut
import Derived.Test.YtjhgkonacdimfabWApart
import Derived.Test.YtjhgkonacdimfabWArr
import Derived.Test.YtjhgkonacdimfabWZeros
import Derived.Test.YtjhgkonacdimfabWFoot
import Derived.Test.YtjhgkonacdimfabWKept
import Derived.Test.YtjhgkonacdimfabWShare
import Derived.Test.YtjhgkonacdimfabWN
import Derived.Test.YtjhgkonacdimfabWFootNe
import Derived.Test.YtjhgkonacdimfabWAt
import Derived.Test.YtjhgkonacdimfabWEqStruct
import Derived.Test.YtjhgkonacdimfabWRepsOne
import Derived.Test.YtjhgkonacdimfabWInv
import Derived.Test.YtjhgkonacdimfabWInvWords
import Derived.Test.YtjhgkonacdimfabWGuard
import Derived.Test.YtjhgkonacdimfabWNEv
import Derived.Test.YtjhgkonacdimfabWMore
namespace Go.Proofs.Ytjhgkonacdimfab.PFnExactCmdOk
open Go.RowKit Go.Proofs.YtjhgkonacdimfabW.PrintWords Go.Proofs.YtjhgkonacdimfabW.PrintLast Go.Proofs.YtjhgkonacdimfabW.PrintMore Go.Proofs.YtjhgkonacdimfabV
open Go.Value renaming int → I, slice → Y
open Go.IntKind renaming i64 → L
open Aside0 renaming mk → D
open Option renaming bind_eq_some_iff → bs_
attribute [local go_sem] max2_int min2_int max_two min_two max_three min_three max_four min_four   -- for this text's walks alone
set_option linter.unusedVariables false
set_option linter.unusedSimpArgs false



def errW : Option Int → Value
 | none => .nilIface
 | some c => .iface 0 (I L c)
theorem errW_none : errW none = .nilIface := rfl
theorem errW_some (c : Int) : errW (some c) = .iface 0 (I L c) := rfl

theorem info3 : (Try.prog.info? 3).map (fun i => (i.zero, i.size, i.bytes)) = some (some (I L 0), 1, 8) := by kernel_rfl
theorem info5 : (Try.prog.info? 5).map (fun i => (i.zero, i.size, i.bytes)) = some (some (.int .u8 0), 1, 1) := by kernel_rfl
theorem info65 : (Try.prog.info? 65).map (fun i => (i.zero, i.size, i.bytes)) = some (some (.agg #[(I L 0), (I L 0), (I L 0), (I L 0), (I L 0), (I L 0), (I L 0), (I L 0), (I L 0), (I L 0), (I L 0), (I L 0), (I L 0), (I L 0), (I L 0), (I L 0), (I L 0)]), 17, 136) := by kernel_rfl
theorem info82 : (Try.prog.info? 82).map (fun i => (i.zero, i.size, i.bytes)) = some (some (Y none 0 0), 1, 24) := by kernel_rfl
-- the values' own types
/-! #### struct type 23 -/
structure S23 where
 f0 : Int
 f1 : Int
 f2 : Int
 f3 : Int
 f4 : Int
def z23 : S23 := ⟨(0 : Int), (0 : Int), (0 : Int), (0 : Int), (0 : Int)⟩
def k23 : Kd S23 := Kd.iso (Kd.pair (Kd.int .i64) (Kd.pair (Kd.int .i64) (Kd.pair (Kd.int .i64) (Kd.pair (Kd.int .i64) (Kd.int .i64))))) (fun x : S23 => (x.f0, x.f1, x.f2, x.f3, x.f4))
theorem k23_open {w : World} {x : S23} {cs : List Value} (h : k23.K w x cs) : cs = [I L x.f0, I L x.f1, I L x.f2, I L x.f3, I L x.f4] := by
 obtain ⟨_, _, rfl, rfl, ⟨_, _, rfl, rfl, ⟨_, _, rfl, rfl, ⟨_, _, rfl, rfl, rfl⟩⟩⟩⟩ := h
 exact rfl
theorem k23_openM {w : World} {base : Nat} {ok : Nat → Prop} {x : S23} {cs : List Value} (h : k23.M w base ok x cs) : cs = [I L x.f0, I L x.f1, I L x.f2, I L x.f3, I L x.f4] := by
 obtain ⟨_, _, rfl, rfl, ⟨_, _, rfl, rfl, ⟨_, _, rfl, rfl, ⟨_, _, rfl, rfl, rfl⟩⟩⟩⟩ := h
 exact rfl
theorem k23_mk (w : World) (x : S23)  : k23.K w x [I L x.f0, I L x.f1, I L x.f2, I L x.f3, I L x.f4] := ⟨[I L x.f0], [I L x.f1, I L x.f2, I L x.f3, I L x.f4], rfl, rfl, ⟨[I L x.f1], [I L x.f2, I L x.f3, I L x.f4], rfl, rfl, ⟨[I L x.f2], [I L x.f3, I L x.f4], rfl, rfl, ⟨[I L x.f3], [I L x.f4], rfl, rfl, rfl⟩⟩⟩⟩
theorem k23_mkM (w : World) (base : Nat) (ok : Nat → Prop) (x : S23)  : k23.M w base ok x [I L x.f0, I L x.f1, I L x.f2, I L x.f3, I L x.f4] := ⟨[I L x.f0], [I L x.f1, I L x.f2, I L x.f3, I L x.f4], rfl, rfl, ⟨[I L x.f1], [I L x.f2, I L x.f3, I L x.f4], rfl, rfl, ⟨[I L x.f2], [I L x.f3, I L x.f4], rfl, rfl, ⟨[I L x.f3], [I L x.f4], rfl, rfl, rfl⟩⟩⟩⟩
theorem k23_mkF (W : World) (ok : Nat → Prop) (x : S23) : Kd.FK k23 W ok x [I L x.f0, I L x.f1, I L x.f2, I L x.f3, I L x.f4] := fun W2 _ => k23_mk W2 x
def rd_T23 (xs : List S23) (i : Int) : S23 := xs.getD i.toNat z23
theorem at_T23 {w : World} {A : Option Addr} {n : Nat} {xs : List S23} (h : Kd.C k23 w A n xs) (i : Int) (h0 : 0 ≤ i) (h1 : i < n) : ∃ ad , A = some ad ∧ w.cell? (ad.add (i.toNat * 5)) = some (I L (rd_T23 xs i).f0) ∧ w.cell? ⟨(ad.add (i.toNat * 5)).block, (ad.add (i.toNat * 5)).off + 1, none⟩ = some (I L (rd_T23 xs i).f1) ∧ w.cell? ⟨(ad.add (i.toNat * 5)).block, (ad.add (i.toNat * 5)).off + 2, none⟩ = some (I L (rd_T23 xs i).f2) ∧ w.cell? ⟨(ad.add (i.toNat * 5)).block, (ad.add (i.toNat * 5)).off + 3, none⟩ = some (I L (rd_T23 xs i).f3) ∧ w.cell? ⟨(ad.add (i.toNat * 5)).block, (ad.add (i.toNat * 5)).off + 4, none⟩ = some (I L (rd_T23 xs i).f4) := by
 obtain ⟨ad, c, e, _, hK, hc0⟩ := Kd.C_get h z23 i h0 h1
 have hc : ∀ j u, c[j]? = some u → w.cell? (ad.add (i.toNat * 5 + j)) = some u := hc0
 obtain rfl := k23_open hK
 exact ⟨ad,e,hc 0 _ rfl,by rw [← add_field _ _ 1 (by omega)];exact hc 1 _ rfl,by rw [← add_field _ _ 2 (by omega)];exact hc 2 _ rfl,by rw [← add_field _ _ 3 (by omega)];exact hc 3 _ rfl,by rw [← add_field _ _ 4 (by omega)];exact hc 4 _ rfl⟩

/-! #### struct type 25 -/
structure S25 where
 f0 : S23
 f1 : Int
def z25 : S25 := ⟨z23, (0 : Int)⟩
def k25 : Kd S25 := Kd.iso (Kd.pair k23 (Kd.int .i64)) (fun x : S25 => (x.f0, x.f1))
theorem k25_open {w : World} {x : S25} {cs : List Value} (h : k25.K w x cs) : cs = [I L x.f0.f0, I L x.f0.f1, I L x.f0.f2, I L x.f0.f3, I L x.f0.f4, I L x.f1] := by
 obtain ⟨_, _, rfl, s0, rfl⟩ := h
 obtain rfl := k23_open s0
 exact rfl
theorem k25_openM {w : World} {base : Nat} {ok : Nat → Prop} {x : S25} {cs : List Value} (h : k25.M w base ok x cs) : cs = [I L x.f0.f0, I L x.f0.f1, I L x.f0.f2, I L x.f0.f3, I L x.f0.f4, I L x.f1] := by
 obtain ⟨_, _, rfl, s0, rfl⟩ := h
 obtain rfl := k23_openM s0
 exact rfl
theorem k25_mk (w : World) (x : S25)  : k25.K w x [I L x.f0.f0, I L x.f0.f1, I L x.f0.f2, I L x.f0.f3, I L x.f0.f4, I L x.f1] := ⟨[I L x.f0.f0, I L x.f0.f1, I L x.f0.f2, I L x.f0.f3, I L x.f0.f4], [I L x.f1], rfl, (k23_mk w x.f0 ), rfl⟩
theorem k25_mkM (w : World) (base : Nat) (ok : Nat → Prop) (x : S25)  : k25.M w base ok x [I L x.f0.f0, I L x.f0.f1, I L x.f0.f2, I L x.f0.f3, I L x.f0.f4, I L x.f1] := ⟨[I L x.f0.f0, I L x.f0.f1, I L x.f0.f2, I L x.f0.f3, I L x.f0.f4], [I L x.f1], rfl, (k23_mkM w base ok x.f0 ), rfl⟩
theorem k25_mkF (W : World) (ok : Nat → Prop) (x : S25) : Kd.FK k25 W ok x [I L x.f0.f0, I L x.f0.f1, I L x.f0.f2, I L x.f0.f3, I L x.f0.f4, I L x.f1] := fun W2 _ => k25_mk W2 x
def rd_T25 (xs : List S25) (i : Int) : S25 := xs.getD i.toNat z25
theorem at_T25 {w : World} {A : Option Addr} {n : Nat} {xs : List S25} (h : Kd.C k25 w A n xs) (i : Int) (h0 : 0 ≤ i) (h1 : i < n) : ∃ ad , A = some ad ∧ w.cell? (ad.add (i.toNat * 6)) = some (I L (rd_T25 xs i).f0.f0) ∧ w.cell? ⟨(ad.add (i.toNat * 6)).block, (ad.add (i.toNat * 6)).off + 1, none⟩ = some (I L (rd_T25 xs i).f0.f1) ∧ w.cell? ⟨(ad.add (i.toNat * 6)).block, (ad.add (i.toNat * 6)).off + 2, none⟩ = some (I L (rd_T25 xs i).f0.f2) ∧ w.cell? ⟨(ad.add (i.toNat * 6)).block, (ad.add (i.toNat * 6)).off + 3, none⟩ = some (I L (rd_T25 xs i).f0.f3) ∧ w.cell? ⟨(ad.add (i.toNat * 6)).block, (ad.add (i.toNat * 6)).off + 4, none⟩ = some (I L (rd_T25 xs i).f0.f4) ∧ w.cell? ⟨(ad.add (i.toNat * 6)).block, (ad.add (i.toNat * 6)).off + 5, none⟩ = some (I L (rd_T25 xs i).f1) := by
 obtain ⟨ad, c, e, _, hK, hc0⟩ := Kd.C_get h z25 i h0 h1
 have hc : ∀ j u, c[j]? = some u → w.cell? (ad.add (i.toNat * 6 + j)) = some u := hc0
 obtain rfl := k25_open hK
 exact ⟨ad,e,hc 0 _ rfl,by rw [← add_field _ _ 1 (by omega)];exact hc 1 _ rfl,by rw [← add_field _ _ 2 (by omega)];exact hc 2 _ rfl,by rw [← add_field _ _ 3 (by omega)];exact hc 3 _ rfl,by rw [← add_field _ _ 4 (by omega)];exact hc 4 _ rfl,by rw [← add_field _ _ 5 (by omega)];exact hc 5 _ rfl⟩

/-! #### struct type 69 -/
structure S69 where
 f0 : Int
 f1 : S25
 f2 : S25
 f3 : Int
 f4 : Int
 f5 : Int
 f6 : Int
def z69 : S69 := ⟨(0 : Int), z25, z25, (0 : Int), (0 : Int), (0 : Int), (0 : Int)⟩
def k69 : Kd S69 := Kd.iso (Kd.pair (Kd.int .i64) (Kd.pair k25 (Kd.pair k25 (Kd.pair (Kd.int .i64) (Kd.pair (Kd.int .i64) (Kd.pair (Kd.int .i64) (Kd.int .i64))))))) (fun x : S69 => (x.f0, x.f1, x.f2, x.f3, x.f4, x.f5, x.f6))
theorem k69_open {w : World} {x : S69} {cs : List Value} (h : k69.K w x cs) : cs = [I L x.f0, I L x.f1.f0.f0, I L x.f1.f0.f1, I L x.f1.f0.f2, I L x.f1.f0.f3, I L x.f1.f0.f4, I L x.f1.f1, I L x.f2.f0.f0, I L x.f2.f0.f1, I L x.f2.f0.f2, I L x.f2.f0.f3, I L x.f2.f0.f4, I L x.f2.f1, I L x.f3, I L x.f4, I L x.f5, I L x.f6] := by
 obtain ⟨_, _, rfl, rfl, ⟨_, _, rfl, s1, ⟨_, _, rfl, s7, ⟨_, _, rfl, rfl, ⟨_, _, rfl, rfl, ⟨_, _, rfl, rfl, rfl⟩⟩⟩⟩⟩⟩ := h
 obtain rfl := k25_open s1
 obtain rfl := k25_open s7
 exact rfl
theorem k69_openM {w : World} {base : Nat} {ok : Nat → Prop} {x : S69} {cs : List Value} (h : k69.M w base ok x cs) : cs = [I L x.f0, I L x.f1.f0.f0, I L x.f1.f0.f1, I L x.f1.f0.f2, I L x.f1.f0.f3, I L x.f1.f0.f4, I L x.f1.f1, I L x.f2.f0.f0, I L x.f2.f0.f1, I L x.f2.f0.f2, I L x.f2.f0.f3, I L x.f2.f0.f4, I L x.f2.f1, I L x.f3, I L x.f4, I L x.f5, I L x.f6] := by
 obtain ⟨_, _, rfl, rfl, ⟨_, _, rfl, s1, ⟨_, _, rfl, s7, ⟨_, _, rfl, rfl, ⟨_, _, rfl, rfl, ⟨_, _, rfl, rfl, rfl⟩⟩⟩⟩⟩⟩ := h
 obtain rfl := k25_openM s1
 obtain rfl := k25_openM s7
 exact rfl
theorem k69_mk (w : World) (x : S69)  : k69.K w x [I L x.f0, I L x.f1.f0.f0, I L x.f1.f0.f1, I L x.f1.f0.f2, I L x.f1.f0.f3, I L x.f1.f0.f4, I L x.f1.f1, I L x.f2.f0.f0, I L x.f2.f0.f1, I L x.f2.f0.f2, I L x.f2.f0.f3, I L x.f2.f0.f4, I L x.f2.f1, I L x.f3, I L x.f4, I L x.f5, I L x.f6] := ⟨[I L x.f0], [I L x.f1.f0.f0, I L x.f1.f0.f1, I L x.f1.f0.f2, I L x.f1.f0.f3, I L x.f1.f0.f4, I L x.f1.f1, I L x.f2.f0.f0, I L x.f2.f0.f1, I L x.f2.f0.f2, I L x.f2.f0.f3, I L x.f2.f0.f4, I L x.f2.f1, I L x.f3, I L x.f4, I L x.f5, I L x.f6], rfl, rfl, ⟨[I L x.f1.f0.f0, I L x.f1.f0.f1, I L x.f1.f0.f2, I L x.f1.f0.f3, I L x.f1.f0.f4, I L x.f1.f1], [I L x.f2.f0.f0, I L x.f2.f0.f1, I L x.f2.f0.f2, I L x.f2.f0.f3, I L x.f2.f0.f4, I L x.f2.f1, I L x.f3, I L x.f4, I L x.f5, I L x.f6], rfl, (k25_mk w x.f1 ), ⟨[I L x.f2.f0.f0, I L x.f2.f0.f1, I L x.f2.f0.f2, I L x.f2.f0.f3, I L x.f2.f0.f4, I L x.f2.f1], [I L x.f3, I L x.f4, I L x.f5, I L x.f6], rfl, (k25_mk w x.f2 ), ⟨[I L x.f3], [I L x.f4, I L x.f5, I L x.f6], rfl, rfl, ⟨[I L x.f4], [I L x.f5, I L x.f6], rfl, rfl, ⟨[I L x.f5], [I L x.f6], rfl, rfl, rfl⟩⟩⟩⟩⟩⟩
theorem k69_mkM (w : World) (base : Nat) (ok : Nat → Prop) (x : S69)  : k69.M w base ok x [I L x.f0, I L x.f1.f0.f0, I L x.f1.f0.f1, I L x.f1.f0.f2, I L x.f1.f0.f3, I L x.f1.f0.f4, I L x.f1.f1, I L x.f2.f0.f0, I L x.f2.f0.f1, I L x.f2.f0.f2, I L x.f2.f0.f3, I L x.f2.f0.f4, I L x.f2.f1, I L x.f3, I L x.f4, I L x.f5, I L x.f6] := ⟨[I L x.f0], [I L x.f1.f0.f0, I L x.f1.f0.f1, I L x.f1.f0.f2, I L x.f1.f0.f3, I L x.f1.f0.f4, I L x.f1.f1, I L x.f2.f0.f0, I L x.f2.f0.f1, I L x.f2.f0.f2, I L x.f2.f0.f3, I L x.f2.f0.f4, I L x.f2.f1, I L x.f3, I L x.f4, I L x.f5, I L x.f6], rfl, rfl, ⟨[I L x.f1.f0.f0, I L x.f1.f0.f1, I L x.f1.f0.f2, I L x.f1.f0.f3, I L x.f1.f0.f4, I L x.f1.f1], [I L x.f2.f0.f0, I L x.f2.f0.f1, I L x.f2.f0.f2, I L x.f2.f0.f3, I L x.f2.f0.f4, I L x.f2.f1, I L x.f3, I L x.f4, I L x.f5, I L x.f6], rfl, (k25_mkM w base ok x.f1 ), ⟨[I L x.f2.f0.f0, I L x.f2.f0.f1, I L x.f2.f0.f2, I L x.f2.f0.f3, I L x.f2.f0.f4, I L x.f2.f1], [I L x.f3, I L x.f4, I L x.f5, I L x.f6], rfl, (k25_mkM w base ok x.f2 ), ⟨[I L x.f3], [I L x.f4, I L x.f5, I L x.f6], rfl, rfl, ⟨[I L x.f4], [I L x.f5, I L x.f6], rfl, rfl, ⟨[I L x.f5], [I L x.f6], rfl, rfl, rfl⟩⟩⟩⟩⟩⟩
theorem k69_mkF (W : World) (ok : Nat → Prop) (x : S69) : Kd.FK k69 W ok x [I L x.f0, I L x.f1.f0.f0, I L x.f1.f0.f1, I L x.f1.f0.f2, I L x.f1.f0.f3, I L x.f1.f0.f4, I L x.f1.f1, I L x.f2.f0.f0, I L x.f2.f0.f1, I L x.f2.f0.f2, I L x.f2.f0.f3, I L x.f2.f0.f4, I L x.f2.f1, I L x.f3, I L x.f4, I L x.f5, I L x.f6] := fun W2 _ => k69_mk W2 x
def rd_T69 (xs : List S69) (i : Int) : S69 := xs.getD i.toNat z69
theorem at_T69 {w : World} {A : Option Addr} {n : Nat} {xs : List S69} (h : Kd.C k69 w A n xs) (i : Int) (h0 : 0 ≤ i) (h1 : i < n) : ∃ ad , A = some ad ∧ w.cell? (ad.add (i.toNat * 17)) = some (I L (rd_T69 xs i).f0) ∧ w.cell? ⟨(ad.add (i.toNat * 17)).block, (ad.add (i.toNat * 17)).off + 1, none⟩ = some (I L (rd_T69 xs i).f1.f0.f0) ∧ w.cell? ⟨(ad.add (i.toNat * 17)).block, (ad.add (i.toNat * 17)).off + 2, none⟩ = some (I L (rd_T69 xs i).f1.f0.f1) ∧ w.cell? ⟨(ad.add (i.toNat * 17)).block, (ad.add (i.toNat * 17)).off + 3, none⟩ = some (I L (rd_T69 xs i).f1.f0.f2) ∧ w.cell? ⟨(ad.add (i.toNat * 17)).block, (ad.add (i.toNat * 17)).off + 4, none⟩ = some (I L (rd_T69 xs i).f1.f0.f3) ∧ w.cell? ⟨(ad.add (i.toNat * 17)).block, (ad.add (i.toNat * 17)).off + 5, none⟩ = some (I L (rd_T69 xs i).f1.f0.f4) ∧ w.cell? ⟨(ad.add (i.toNat * 17)).block, (ad.add (i.toNat * 17)).off + 6, none⟩ = some (I L (rd_T69 xs i).f1.f1) ∧ w.cell? ⟨(ad.add (i.toNat * 17)).block, (ad.add (i.toNat * 17)).off + 7, none⟩ = some (I L (rd_T69 xs i).f2.f0.f0) ∧ w.cell? ⟨(ad.add (i.toNat * 17)).block, (ad.add (i.toNat * 17)).off + 8, none⟩ = some (I L (rd_T69 xs i).f2.f0.f1) ∧ w.cell? ⟨(ad.add (i.toNat * 17)).block, (ad.add (i.toNat * 17)).off + 9, none⟩ = some (I L (rd_T69 xs i).f2.f0.f2) ∧ w.cell? ⟨(ad.add (i.toNat * 17)).block, (ad.add (i.toNat * 17)).off + 10, none⟩ = some (I L (rd_T69 xs i).f2.f0.f3) ∧ w.cell? ⟨(ad.add (i.toNat * 17)).block, (ad.add (i.toNat * 17)).off + 11, none⟩ = some (I L (rd_T69 xs i).f2.f0.f4) ∧ w.cell? ⟨(ad.add (i.toNat * 17)).block, (ad.add (i.toNat * 17)).off + 12, none⟩ = some (I L (rd_T69 xs i).f2.f1) ∧ w.cell? ⟨(ad.add (i.toNat * 17)).block, (ad.add (i.toNat * 17)).off + 13, none⟩ = some (I L (rd_T69 xs i).f3) ∧ w.cell? ⟨(ad.add (i.toNat * 17)).block, (ad.add (i.toNat * 17)).off + 14, none⟩ = some (I L (rd_T69 xs i).f4) ∧ w.cell? ⟨(ad.add (i.toNat * 17)).block, (ad.add (i.toNat * 17)).off + 15, none⟩ = some (I L (rd_T69 xs i).f5) ∧ w.cell? ⟨(ad.add (i.toNat * 17)).block, (ad.add (i.toNat * 17)).off + 16, none⟩ = some (I L (rd_T69 xs i).f6) := by
 obtain ⟨ad, c, e, _, hK, hc0⟩ := Kd.C_get h z69 i h0 h1
 have hc : ∀ j u, c[j]? = some u → w.cell? (ad.add (i.toNat * 17 + j)) = some u := hc0
 obtain rfl := k69_open hK
 exact ⟨ad,e,hc 0 _ rfl,by rw [← add_field _ _ 1 (by omega)];exact hc 1 _ rfl,by rw [← add_field _ _ 2 (by omega)];exact hc 2 _ rfl,by rw [← add_field _ _ 3 (by omega)];exact hc 3 _ rfl,by rw [← add_field _ _ 4 (by omega)];exact hc 4 _ rfl,by rw [← add_field _ _ 5 (by omega)];exact hc 5 _ rfl,by rw [← add_field _ _ 6 (by omega)];exact hc 6 _ rfl,by rw [← add_field _ _ 7 (by omega)];exact hc 7 _ rfl,by rw [← add_field _ _ 8 (by omega)];exact hc 8 _ rfl,by rw [← add_field _ _ 9 (by omega)];exact hc 9 _ rfl,by rw [← add_field _ _ 10 (by omega)];exact hc 10 _ rfl,by rw [← add_field _ _ 11 (by omega)];exact hc 11 _ rfl,by rw [← add_field _ _ 12 (by omega)];exact hc 12 _ rfl,by rw [← add_field _ _ 13 (by omega)];exact hc 13 _ rfl,by rw [← add_field _ _ 14 (by omega)];exact hc 14 _ rfl,by rw [← add_field _ _ 15 (by omega)];exact hc 15 _ rfl,by rw [← add_field _ _ 16 (by omega)];exact hc 16 _ rfl⟩

/-! #### struct type 35 -/
structure S35 where
 f0 : Int
 f1 : Int
 f2 : Int
 f3 : Int
 f4 : Int
def z35 : S35 := ⟨(0 : Int), (0 : Int), (0 : Int), (0 : Int), (0 : Int)⟩
def k35 : Kd S35 := Kd.iso (Kd.pair (Kd.int .i64) (Kd.pair (Kd.int .i64) (Kd.pair (Kd.int .i64) (Kd.pair (Kd.int .i64) (Kd.int .i64))))) (fun x : S35 => (x.f0, x.f1, x.f2, x.f3, x.f4))
theorem k35_open {w : World} {x : S35} {cs : List Value} (h : k35.K w x cs) : cs = [I L x.f0, I L x.f1, I L x.f2, I L x.f3, I L x.f4] := by
 obtain ⟨_, _, rfl, rfl, ⟨_, _, rfl, rfl, ⟨_, _, rfl, rfl, ⟨_, _, rfl, rfl, rfl⟩⟩⟩⟩ := h
 exact rfl
theorem k35_openM {w : World} {base : Nat} {ok : Nat → Prop} {x : S35} {cs : List Value} (h : k35.M w base ok x cs) : cs = [I L x.f0, I L x.f1, I L x.f2, I L x.f3, I L x.f4] := by
 obtain ⟨_, _, rfl, rfl, ⟨_, _, rfl, rfl, ⟨_, _, rfl, rfl, ⟨_, _, rfl, rfl, rfl⟩⟩⟩⟩ := h
 exact rfl
theorem k35_mk (w : World) (x : S35)  : k35.K w x [I L x.f0, I L x.f1, I L x.f2, I L x.f3, I L x.f4] := ⟨[I L x.f0], [I L x.f1, I L x.f2, I L x.f3, I L x.f4], rfl, rfl, ⟨[I L x.f1], [I L x.f2, I L x.f3, I L x.f4], rfl, rfl, ⟨[I L x.f2], [I L x.f3, I L x.f4], rfl, rfl, ⟨[I L x.f3], [I L x.f4], rfl, rfl, rfl⟩⟩⟩⟩
theorem k35_mkM (w : World) (base : Nat) (ok : Nat → Prop) (x : S35)  : k35.M w base ok x [I L x.f0, I L x.f1, I L x.f2, I L x.f3, I L x.f4] := ⟨[I L x.f0], [I L x.f1, I L x.f2, I L x.f3, I L x.f4], rfl, rfl, ⟨[I L x.f1], [I L x.f2, I L x.f3, I L x.f4], rfl, rfl, ⟨[I L x.f2], [I L x.f3, I L x.f4], rfl, rfl, ⟨[I L x.f3], [I L x.f4], rfl, rfl, rfl⟩⟩⟩⟩
theorem k35_mkF (W : World) (ok : Nat → Prop) (x : S35) : Kd.FK k35 W ok x [I L x.f0, I L x.f1, I L x.f2, I L x.f3, I L x.f4] := fun W2 _ => k35_mk W2 x
def rd_T35 (xs : List S35) (i : Int) : S35 := xs.getD i.toNat z35
theorem at_T35 {w : World} {A : Option Addr} {n : Nat} {xs : List S35} (h : Kd.C k35 w A n xs) (i : Int) (h0 : 0 ≤ i) (h1 : i < n) : ∃ ad , A = some ad ∧ w.cell? (ad.add (i.toNat * 5)) = some (I L (rd_T35 xs i).f0) ∧ w.cell? ⟨(ad.add (i.toNat * 5)).block, (ad.add (i.toNat * 5)).off + 1, none⟩ = some (I L (rd_T35 xs i).f1) ∧ w.cell? ⟨(ad.add (i.toNat * 5)).block, (ad.add (i.toNat * 5)).off + 2, none⟩ = some (I L (rd_T35 xs i).f2) ∧ w.cell? ⟨(ad.add (i.toNat * 5)).block, (ad.add (i.toNat * 5)).off + 3, none⟩ = some (I L (rd_T35 xs i).f3) ∧ w.cell? ⟨(ad.add (i.toNat * 5)).block, (ad.add (i.toNat * 5)).off + 4, none⟩ = some (I L (rd_T35 xs i).f4) := by
 obtain ⟨ad, c, e, _, hK, hc0⟩ := Kd.C_get h z35 i h0 h1
 have hc : ∀ j u, c[j]? = some u → w.cell? (ad.add (i.toNat * 5 + j)) = some u := hc0
 obtain rfl := k35_open hK
 exact ⟨ad,e,hc 0 _ rfl,by rw [← add_field _ _ 1 (by omega)];exact hc 1 _ rfl,by rw [← add_field _ _ 2 (by omega)];exact hc 2 _ rfl,by rw [← add_field _ _ 3 (by omega)];exact hc 3 _ rfl,by rw [← add_field _ _ 4 (by omega)];exact hc 4 _ rfl⟩

/-! #### struct type 37 -/
structure S37 where
 f0 : S35
 f1 : Int
def z37 : S37 := ⟨z35, (0 : Int)⟩
def k37 : Kd S37 := Kd.iso (Kd.pair k35 (Kd.int .i64)) (fun x : S37 => (x.f0, x.f1))
theorem k37_open {w : World} {x : S37} {cs : List Value} (h : k37.K w x cs) : cs = [I L x.f0.f0, I L x.f0.f1, I L x.f0.f2, I L x.f0.f3, I L x.f0.f4, I L x.f1] := by
 obtain ⟨_, _, rfl, s0, rfl⟩ := h
 obtain rfl := k35_open s0
 exact rfl
theorem k37_openM {w : World} {base : Nat} {ok : Nat → Prop} {x : S37} {cs : List Value} (h : k37.M w base ok x cs) : cs = [I L x.f0.f0, I L x.f0.f1, I L x.f0.f2, I L x.f0.f3, I L x.f0.f4, I L x.f1] := by
 obtain ⟨_, _, rfl, s0, rfl⟩ := h
 obtain rfl := k35_openM s0
 exact rfl
theorem k37_mk (w : World) (x : S37)  : k37.K w x [I L x.f0.f0, I L x.f0.f1, I L x.f0.f2, I L x.f0.f3, I L x.f0.f4, I L x.f1] := ⟨[I L x.f0.f0, I L x.f0.f1, I L x.f0.f2, I L x.f0.f3, I L x.f0.f4], [I L x.f1], rfl, (k35_mk w x.f0 ), rfl⟩
theorem k37_mkM (w : World) (base : Nat) (ok : Nat → Prop) (x : S37)  : k37.M w base ok x [I L x.f0.f0, I L x.f0.f1, I L x.f0.f2, I L x.f0.f3, I L x.f0.f4, I L x.f1] := ⟨[I L x.f0.f0, I L x.f0.f1, I L x.f0.f2, I L x.f0.f3, I L x.f0.f4], [I L x.f1], rfl, (k35_mkM w base ok x.f0 ), rfl⟩
theorem k37_mkF (W : World) (ok : Nat → Prop) (x : S37) : Kd.FK k37 W ok x [I L x.f0.f0, I L x.f0.f1, I L x.f0.f2, I L x.f0.f3, I L x.f0.f4, I L x.f1] := fun W2 _ => k37_mk W2 x
def rd_T37 (xs : List S37) (i : Int) : S37 := xs.getD i.toNat z37
theorem at_T37 {w : World} {A : Option Addr} {n : Nat} {xs : List S37} (h : Kd.C k37 w A n xs) (i : Int) (h0 : 0 ≤ i) (h1 : i < n) : ∃ ad , A = some ad ∧ w.cell? (ad.add (i.toNat * 6)) = some (I L (rd_T37 xs i).f0.f0) ∧ w.cell? ⟨(ad.add (i.toNat * 6)).block, (ad.add (i.toNat * 6)).off + 1, none⟩ = some (I L (rd_T37 xs i).f0.f1) ∧ w.cell? ⟨(ad.add (i.toNat * 6)).block, (ad.add (i.toNat * 6)).off + 2, none⟩ = some (I L (rd_T37 xs i).f0.f2) ∧ w.cell? ⟨(ad.add (i.toNat * 6)).block, (ad.add (i.toNat * 6)).off + 3, none⟩ = some (I L (rd_T37 xs i).f0.f3) ∧ w.cell? ⟨(ad.add (i.toNat * 6)).block, (ad.add (i.toNat * 6)).off + 4, none⟩ = some (I L (rd_T37 xs i).f0.f4) ∧ w.cell? ⟨(ad.add (i.toNat * 6)).block, (ad.add (i.toNat * 6)).off + 5, none⟩ = some (I L (rd_T37 xs i).f1) := by
 obtain ⟨ad, c, e, _, hK, hc0⟩ := Kd.C_get h z37 i h0 h1
 have hc : ∀ j u, c[j]? = some u → w.cell? (ad.add (i.toNat * 6 + j)) = some u := hc0
 obtain rfl := k37_open hK
 exact ⟨ad,e,hc 0 _ rfl,by rw [← add_field _ _ 1 (by omega)];exact hc 1 _ rfl,by rw [← add_field _ _ 2 (by omega)];exact hc 2 _ rfl,by rw [← add_field _ _ 3 (by omega)];exact hc 3 _ rfl,by rw [← add_field _ _ 4 (by omega)];exact hc 4 _ rfl,by rw [← add_field _ _ 5 (by omega)];exact hc 5 _ rfl⟩

/-! #### struct type 65 -/
structure S65 where
 f0 : Int
 f1 : S37
 f2 : S37
 f3 : Int
 f4 : Int
 f5 : Int
 f6 : Int
def z65 : S65 := ⟨(0 : Int), z37, z37, (0 : Int), (0 : Int), (0 : Int), (0 : Int)⟩
def k65 : Kd S65 := Kd.iso (Kd.pair (Kd.int .i64) (Kd.pair k37 (Kd.pair k37 (Kd.pair (Kd.int .i64) (Kd.pair (Kd.int .i64) (Kd.pair (Kd.int .i64) (Kd.int .i64))))))) (fun x : S65 => (x.f0, x.f1, x.f2, x.f3, x.f4, x.f5, x.f6))
theorem k65_open {w : World} {x : S65} {cs : List Value} (h : k65.K w x cs) : cs = [I L x.f0, I L x.f1.f0.f0, I L x.f1.f0.f1, I L x.f1.f0.f2, I L x.f1.f0.f3, I L x.f1.f0.f4, I L x.f1.f1, I L x.f2.f0.f0, I L x.f2.f0.f1, I L x.f2.f0.f2, I L x.f2.f0.f3, I L x.f2.f0.f4, I L x.f2.f1, I L x.f3, I L x.f4, I L x.f5, I L x.f6] := by
 obtain ⟨_, _, rfl, rfl, ⟨_, _, rfl, s1, ⟨_, _, rfl, s7, ⟨_, _, rfl, rfl, ⟨_, _, rfl, rfl, ⟨_, _, rfl, rfl, rfl⟩⟩⟩⟩⟩⟩ := h
 obtain rfl := k37_open s1
 obtain rfl := k37_open s7
 exact rfl
theorem k65_openM {w : World} {base : Nat} {ok : Nat → Prop} {x : S65} {cs : List Value} (h : k65.M w base ok x cs) : cs = [I L x.f0, I L x.f1.f0.f0, I L x.f1.f0.f1, I L x.f1.f0.f2, I L x.f1.f0.f3, I L x.f1.f0.f4, I L x.f1.f1, I L x.f2.f0.f0, I L x.f2.f0.f1, I L x.f2.f0.f2, I L x.f2.f0.f3, I L x.f2.f0.f4, I L x.f2.f1, I L x.f3, I L x.f4, I L x.f5, I L x.f6] := by
 obtain ⟨_, _, rfl, rfl, ⟨_, _, rfl, s1, ⟨_, _, rfl, s7, ⟨_, _, rfl, rfl, ⟨_, _, rfl, rfl, ⟨_, _, rfl, rfl, rfl⟩⟩⟩⟩⟩⟩ := h
 obtain rfl := k37_openM s1
 obtain rfl := k37_openM s7
 exact rfl
theorem k65_mk (w : World) (x : S65)  : k65.K w x [I L x.f0, I L x.f1.f0.f0, I L x.f1.f0.f1, I L x.f1.f0.f2, I L x.f1.f0.f3, I L x.f1.f0.f4, I L x.f1.f1, I L x.f2.f0.f0, I L x.f2.f0.f1, I L x.f2.f0.f2, I L x.f2.f0.f3, I L x.f2.f0.f4, I L x.f2.f1, I L x.f3, I L x.f4, I L x.f5, I L x.f6] := ⟨[I L x.f0], [I L x.f1.f0.f0, I L x.f1.f0.f1, I L x.f1.f0.f2, I L x.f1.f0.f3, I L x.f1.f0.f4, I L x.f1.f1, I L x.f2.f0.f0, I L x.f2.f0.f1, I L x.f2.f0.f2, I L x.f2.f0.f3, I L x.f2.f0.f4, I L x.f2.f1, I L x.f3, I L x.f4, I L x.f5, I L x.f6], rfl, rfl, ⟨[I L x.f1.f0.f0, I L x.f1.f0.f1, I L x.f1.f0.f2, I L x.f1.f0.f3, I L x.f1.f0.f4, I L x.f1.f1], [I L x.f2.f0.f0, I L x.f2.f0.f1, I L x.f2.f0.f2, I L x.f2.f0.f3, I L x.f2.f0.f4, I L x.f2.f1, I L x.f3, I L x.f4, I L x.f5, I L x.f6], rfl, (k37_mk w x.f1 ), ⟨[I L x.f2.f0.f0, I L x.f2.f0.f1, I L x.f2.f0.f2, I L x.f2.f0.f3, I L x.f2.f0.f4, I L x.f2.f1], [I L x.f3, I L x.f4, I L x.f5, I L x.f6], rfl, (k37_mk w x.f2 ), ⟨[I L x.f3], [I L x.f4, I L x.f5, I L x.f6], rfl, rfl, ⟨[I L x.f4], [I L x.f5, I L x.f6], rfl, rfl, ⟨[I L x.f5], [I L x.f6], rfl, rfl, rfl⟩⟩⟩⟩⟩⟩
theorem k65_mkM (w : World) (base : Nat) (ok : Nat → Prop) (x : S65)  : k65.M w base ok x [I L x.f0, I L x.f1.f0.f0, I L x.f1.f0.f1, I L x.f1.f0.f2, I L x.f1.f0.f3, I L x.f1.f0.f4, I L x.f1.f1, I L x.f2.f0.f0, I L x.f2.f0.f1, I L x.f2.f0.f2, I L x.f2.f0.f3, I L x.f2.f0.f4, I L x.f2.f1, I L x.f3, I L x.f4, I L x.f5, I L x.f6] := ⟨[I L x.f0], [I L x.f1.f0.f0, I L x.f1.f0.f1, I L x.f1.f0.f2, I L x.f1.f0.f3, I L x.f1.f0.f4, I L x.f1.f1, I L x.f2.f0.f0, I L x.f2.f0.f1, I L x.f2.f0.f2, I L x.f2.f0.f3, I L x.f2.f0.f4, I L x.f2.f1, I L x.f3, I L x.f4, I L x.f5, I L x.f6], rfl, rfl, ⟨[I L x.f1.f0.f0, I L x.f1.f0.f1, I L x.f1.f0.f2, I L x.f1.f0.f3, I L x.f1.f0.f4, I L x.f1.f1], [I L x.f2.f0.f0, I L x.f2.f0.f1, I L x.f2.f0.f2, I L x.f2.f0.f3, I L x.f2.f0.f4, I L x.f2.f1, I L x.f3, I L x.f4, I L x.f5, I L x.f6], rfl, (k37_mkM w base ok x.f1 ), ⟨[I L x.f2.f0.f0, I L x.f2.f0.f1, I L x.f2.f0.f2, I L x.f2.f0.f3, I L x.f2.f0.f4, I L x.f2.f1], [I L x.f3, I L x.f4, I L x.f5, I L x.f6], rfl, (k37_mkM w base ok x.f2 ), ⟨[I L x.f3], [I L x.f4, I L x.f5, I L x.f6], rfl, rfl, ⟨[I L x.f4], [I L x.f5, I L x.f6], rfl, rfl, ⟨[I L x.f5], [I L x.f6], rfl, rfl, rfl⟩⟩⟩⟩⟩⟩
theorem k65_mkF (W : World) (ok : Nat → Prop) (x : S65) : Kd.FK k65 W ok x [I L x.f0, I L x.f1.f0.f0, I L x.f1.f0.f1, I L x.f1.f0.f2, I L x.f1.f0.f3, I L x.f1.f0.f4, I L x.f1.f1, I L x.f2.f0.f0, I L x.f2.f0.f1, I L x.f2.f0.f2, I L x.f2.f0.f3, I L x.f2.f0.f4, I L x.f2.f1, I L x.f3, I L x.f4, I L x.f5, I L x.f6] := fun W2 _ => k65_mk W2 x
def rd_T65 (xs : List S65) (i : Int) : S65 := xs.getD i.toNat z65
theorem at_T65 {w : World} {A : Option Addr} {n : Nat} {xs : List S65} (h : Kd.C k65 w A n xs) (i : Int) (h0 : 0 ≤ i) (h1 : i < n) : ∃ ad , A = some ad ∧ w.cell? (ad.add (i.toNat * 17)) = some (I L (rd_T65 xs i).f0) ∧ w.cell? ⟨(ad.add (i.toNat * 17)).block, (ad.add (i.toNat * 17)).off + 1, none⟩ = some (I L (rd_T65 xs i).f1.f0.f0) ∧ w.cell? ⟨(ad.add (i.toNat * 17)).block, (ad.add (i.toNat * 17)).off + 2, none⟩ = some (I L (rd_T65 xs i).f1.f0.f1) ∧ w.cell? ⟨(ad.add (i.toNat * 17)).block, (ad.add (i.toNat * 17)).off + 3, none⟩ = some (I L (rd_T65 xs i).f1.f0.f2) ∧ w.cell? ⟨(ad.add (i.toNat * 17)).block, (ad.add (i.toNat * 17)).off + 4, none⟩ = some (I L (rd_T65 xs i).f1.f0.f3) ∧ w.cell? ⟨(ad.add (i.toNat * 17)).block, (ad.add (i.toNat * 17)).off + 5, none⟩ = some (I L (rd_T65 xs i).f1.f0.f4) ∧ w.cell? ⟨(ad.add (i.toNat * 17)).block, (ad.add (i.toNat * 17)).off + 6, none⟩ = some (I L (rd_T65 xs i).f1.f1) ∧ w.cell? ⟨(ad.add (i.toNat * 17)).block, (ad.add (i.toNat * 17)).off + 7, none⟩ = some (I L (rd_T65 xs i).f2.f0.f0) ∧ w.cell? ⟨(ad.add (i.toNat * 17)).block, (ad.add (i.toNat * 17)).off + 8, none⟩ = some (I L (rd_T65 xs i).f2.f0.f1) ∧ w.cell? ⟨(ad.add (i.toNat * 17)).block, (ad.add (i.toNat * 17)).off + 9, none⟩ = some (I L (rd_T65 xs i).f2.f0.f2) ∧ w.cell? ⟨(ad.add (i.toNat * 17)).block, (ad.add (i.toNat * 17)).off + 10, none⟩ = some (I L (rd_T65 xs i).f2.f0.f3) ∧ w.cell? ⟨(ad.add (i.toNat * 17)).block, (ad.add (i.toNat * 17)).off + 11, none⟩ = some (I L (rd_T65 xs i).f2.f0.f4) ∧ w.cell? ⟨(ad.add (i.toNat * 17)).block, (ad.add (i.toNat * 17)).off + 12, none⟩ = some (I L (rd_T65 xs i).f2.f1) ∧ w.cell? ⟨(ad.add (i.toNat * 17)).block, (ad.add (i.toNat * 17)).off + 13, none⟩ = some (I L (rd_T65 xs i).f3) ∧ w.cell? ⟨(ad.add (i.toNat * 17)).block, (ad.add (i.toNat * 17)).off + 14, none⟩ = some (I L (rd_T65 xs i).f4) ∧ w.cell? ⟨(ad.add (i.toNat * 17)).block, (ad.add (i.toNat * 17)).off + 15, none⟩ = some (I L (rd_T65 xs i).f5) ∧ w.cell? ⟨(ad.add (i.toNat * 17)).block, (ad.add (i.toNat * 17)).off + 16, none⟩ = some (I L (rd_T65 xs i).f6) := by
 obtain ⟨ad, c, e, _, hK, hc0⟩ := Kd.C_get h z65 i h0 h1
 have hc : ∀ j u, c[j]? = some u → w.cell? (ad.add (i.toNat * 17 + j)) = some u := hc0
 obtain rfl := k65_open hK
 exact ⟨ad,e,hc 0 _ rfl,by rw [← add_field _ _ 1 (by omega)];exact hc 1 _ rfl,by rw [← add_field _ _ 2 (by omega)];exact hc 2 _ rfl,by rw [← add_field _ _ 3 (by omega)];exact hc 3 _ rfl,by rw [← add_field _ _ 4 (by omega)];exact hc 4 _ rfl,by rw [← add_field _ _ 5 (by omega)];exact hc 5 _ rfl,by rw [← add_field _ _ 6 (by omega)];exact hc 6 _ rfl,by rw [← add_field _ _ 7 (by omega)];exact hc 7 _ rfl,by rw [← add_field _ _ 8 (by omega)];exact hc 8 _ rfl,by rw [← add_field _ _ 9 (by omega)];exact hc 9 _ rfl,by rw [← add_field _ _ 10 (by omega)];exact hc 10 _ rfl,by rw [← add_field _ _ 11 (by omega)];exact hc 11 _ rfl,by rw [← add_field _ _ 12 (by omega)];exact hc 12 _ rfl,by rw [← add_field _ _ 13 (by omega)];exact hc 13 _ rfl,by rw [← add_field _ _ 14 (by omega)];exact hc 14 _ rfl,by rw [← add_field _ _ 15 (by omega)];exact hc 15 _ rfl,by rw [← add_field _ _ 16 (by omega)];exact hc 16 _ rfl⟩

def rd_L8 (xs : List (List Int)) (i : Int) : (List Int) := xs.getD i.toNat ([] : List Int)
theorem at_L8 {w : World} {A : Option Addr} {n : Nat} {xs : List (List Int)} (h : Kd.C (Kd.slice 5 (Kd.int .u8)) w A n xs) (i : Int) (h0 : 0 ≤ i) (h1 : i < n) : ∃ ad A0 c0, A = some ad ∧ w.cell? (ad.add i.toNat) = some (Y A0 (rd_L8 xs i).length c0) ∧ (rd_L8 xs i).length ≤ c0 ∧ (Kd.int .u8).C w A0 (rd_L8 xs i).length (rd_L8 xs i) := by
 obtain ⟨ad, c, e, _, hK, hc0⟩ := Kd.C_get h ([] : List Int) i h0 h1
 have hc : ∀ j u, c[j]? = some u → w.cell? (ad.add (i.toNat * 1 + j)) = some u := hc0
 obtain ⟨A0, c0, rfl, l0, g0⟩ := hK
 exact ⟨ad, A0, c0, e, by have hq := hc 0 _ rfl; rwa [Nat.mul_one, Nat.add_zero] at hq, l0, g0⟩

/-! #### struct type 27 -/
structure S27 where
 f0 : Int
 f1 : S25
 f2 : S25
 f3 : Int
 f4 : Int
 f5 : Int
 f6 : Int
 f7 : Int
 f8 : Int
 f9 : Int
 f10 : Int
def z27 : S27 := ⟨(0 : Int), z25, z25, (0 : Int), (0 : Int), (0 : Int), (0 : Int), (0 : Int), (0 : Int), (0 : Int), (0 : Int)⟩
def k27 : Kd S27 := Kd.iso (Kd.pair (Kd.int .i64) (Kd.pair k25 (Kd.pair k25 (Kd.pair (Kd.int .i64) (Kd.pair (Kd.int .i64) (Kd.pair (Kd.int .i64) (Kd.pair (Kd.int .i64) (Kd.pair (Kd.int .i64) (Kd.pair (Kd.int .i64) (Kd.pair (Kd.int .i64) (Kd.int .i64))))))))))) (fun x : S27 => (x.f0, x.f1, x.f2, x.f3, x.f4, x.f5, x.f6, x.f7, x.f8, x.f9, x.f10))
theorem k27_open {w : World} {x : S27} {cs : List Value} (h : k27.K w x cs) : cs = [I L x.f0, I L x.f1.f0.f0, I L x.f1.f0.f1, I L x.f1.f0.f2, I L x.f1.f0.f3, I L x.f1.f0.f4, I L x.f1.f1, I L x.f2.f0.f0, I L x.f2.f0.f1, I L x.f2.f0.f2, I L x.f2.f0.f3, I L x.f2.f0.f4, I L x.f2.f1, I L x.f3, I L x.f4, I L x.f5, I L x.f6, I L x.f7, I L x.f8, I L x.f9, I L x.f10] := by
 obtain ⟨_, _, rfl, rfl, ⟨_, _, rfl, s1, ⟨_, _, rfl, s7, ⟨_, _, rfl, rfl, ⟨_, _, rfl, rfl, ⟨_, _, rfl, rfl, ⟨_, _, rfl, rfl, ⟨_, _, rfl, rfl, ⟨_, _, rfl, rfl, ⟨_, _, rfl, rfl, rfl⟩⟩⟩⟩⟩⟩⟩⟩⟩⟩ := h
 obtain rfl := k25_open s1
 obtain rfl := k25_open s7
 exact rfl
theorem k27_openM {w : World} {base : Nat} {ok : Nat → Prop} {x : S27} {cs : List Value} (h : k27.M w base ok x cs) : cs = [I L x.f0, I L x.f1.f0.f0, I L x.f1.f0.f1, I L x.f1.f0.f2, I L x.f1.f0.f3, I L x.f1.f0.f4, I L x.f1.f1, I L x.f2.f0.f0, I L x.f2.f0.f1, I L x.f2.f0.f2, I L x.f2.f0.f3, I L x.f2.f0.f4, I L x.f2.f1, I L x.f3, I L x.f4, I L x.f5, I L x.f6, I L x.f7, I L x.f8, I L x.f9, I L x.f10] := by
 obtain ⟨_, _, rfl, rfl, ⟨_, _, rfl, s1, ⟨_, _, rfl, s7, ⟨_, _, rfl, rfl, ⟨_, _, rfl, rfl, ⟨_, _, rfl, rfl, ⟨_, _, rfl, rfl, ⟨_, _, rfl, rfl, ⟨_, _, rfl, rfl, ⟨_, _, rfl, rfl, rfl⟩⟩⟩⟩⟩⟩⟩⟩⟩⟩ := h
 obtain rfl := k25_openM s1
 obtain rfl := k25_openM s7
 exact rfl
theorem k27_mk (w : World) (x : S27)  : k27.K w x [I L x.f0, I L x.f1.f0.f0, I L x.f1.f0.f1, I L x.f1.f0.f2, I L x.f1.f0.f3, I L x.f1.f0.f4, I L x.f1.f1, I L x.f2.f0.f0, I L x.f2.f0.f1, I L x.f2.f0.f2, I L x.f2.f0.f3, I L x.f2.f0.f4, I L x.f2.f1, I L x.f3, I L x.f4, I L x.f5, I L x.f6, I L x.f7, I L x.f8, I L x.f9, I L x.f10] := ⟨[I L x.f0], [I L x.f1.f0.f0, I L x.f1.f0.f1, I L x.f1.f0.f2, I L x.f1.f0.f3, I L x.f1.f0.f4, I L x.f1.f1, I L x.f2.f0.f0, I L x.f2.f0.f1, I L x.f2.f0.f2, I L x.f2.f0.f3, I L x.f2.f0.f4, I L x.f2.f1, I L x.f3, I L x.f4, I L x.f5, I L x.f6, I L x.f7, I L x.f8, I L x.f9, I L x.f10], rfl, rfl, ⟨[I L x.f1.f0.f0, I L x.f1.f0.f1, I L x.f1.f0.f2, I L x.f1.f0.f3, I L x.f1.f0.f4, I L x.f1.f1], [I L x.f2.f0.f0, I L x.f2.f0.f1, I L x.f2.f0.f2, I L x.f2.f0.f3, I L x.f2.f0.f4, I L x.f2.f1, I L x.f3, I L x.f4, I L x.f5, I L x.f6, I L x.f7, I L x.f8, I L x.f9, I L x.f10], rfl, (k25_mk w x.f1 ), ⟨[I L x.f2.f0.f0, I L x.f2.f0.f1, I L x.f2.f0.f2, I L x.f2.f0.f3, I L x.f2.f0.f4, I L x.f2.f1], [I L x.f3, I L x.f4, I L x.f5, I L x.f6, I L x.f7, I L x.f8, I L x.f9, I L x.f10], rfl, (k25_mk w x.f2 ), ⟨[I L x.f3], [I L x.f4, I L x.f5, I L x.f6, I L x.f7, I L x.f8, I L x.f9, I L x.f10], rfl, rfl, ⟨[I L x.f4], [I L x.f5, I L x.f6, I L x.f7, I L x.f8, I L x.f9, I L x.f10], rfl, rfl, ⟨[I L x.f5], [I L x.f6, I L x.f7, I L x.f8, I L x.f9, I L x.f10], rfl, rfl, ⟨[I L x.f6], [I L x.f7, I L x.f8, I L x.f9, I L x.f10], rfl, rfl, ⟨[I L x.f7], [I L x.f8, I L x.f9, I L x.f10], rfl, rfl, ⟨[I L x.f8], [I L x.f9, I L x.f10], rfl, rfl, ⟨[I L x.f9], [I L x.f10], rfl, rfl, rfl⟩⟩⟩⟩⟩⟩⟩⟩⟩⟩
theorem k27_mkM (w : World) (base : Nat) (ok : Nat → Prop) (x : S27)  : k27.M w base ok x [I L x.f0, I L x.f1.f0.f0, I L x.f1.f0.f1, I L x.f1.f0.f2, I L x.f1.f0.f3, I L x.f1.f0.f4, I L x.f1.f1, I L x.f2.f0.f0, I L x.f2.f0.f1, I L x.f2.f0.f2, I L x.f2.f0.f3, I L x.f2.f0.f4, I L x.f2.f1, I L x.f3, I L x.f4, I L x.f5, I L x.f6, I L x.f7, I L x.f8, I L x.f9, I L x.f10] := ⟨[I L x.f0], [I L x.f1.f0.f0, I L x.f1.f0.f1, I L x.f1.f0.f2, I L x.f1.f0.f3, I L x.f1.f0.f4, I L x.f1.f1, I L x.f2.f0.f0, I L x.f2.f0.f1, I L x.f2.f0.f2, I L x.f2.f0.f3, I L x.f2.f0.f4, I L x.f2.f1, I L x.f3, I L x.f4, I L x.f5, I L x.f6, I L x.f7, I L x.f8, I L x.f9, I L x.f10], rfl, rfl, ⟨[I L x.f1.f0.f0, I L x.f1.f0.f1, I L x.f1.f0.f2, I L x.f1.f0.f3, I L x.f1.f0.f4, I L x.f1.f1], [I L x.f2.f0.f0, I L x.f2.f0.f1, I L x.f2.f0.f2, I L x.f2.f0.f3, I L x.f2.f0.f4, I L x.f2.f1, I L x.f3, I L x.f4, I L x.f5, I L x.f6, I L x.f7, I L x.f8, I L x.f9, I L x.f10], rfl, (k25_mkM w base ok x.f1 ), ⟨[I L x.f2.f0.f0, I L x.f2.f0.f1, I L x.f2.f0.f2, I L x.f2.f0.f3, I L x.f2.f0.f4, I L x.f2.f1], [I L x.f3, I L x.f4, I L x.f5, I L x.f6, I L x.f7, I L x.f8, I L x.f9, I L x.f10], rfl, (k25_mkM w base ok x.f2 ), ⟨[I L x.f3], [I L x.f4, I L x.f5, I L x.f6, I L x.f7, I L x.f8, I L x.f9, I L x.f10], rfl, rfl, ⟨[I L x.f4], [I L x.f5, I L x.f6, I L x.f7, I L x.f8, I L x.f9, I L x.f10], rfl, rfl, ⟨[I L x.f5], [I L x.f6, I L x.f7, I L x.f8, I L x.f9, I L x.f10], rfl, rfl, ⟨[I L x.f6], [I L x.f7, I L x.f8, I L x.f9, I L x.f10], rfl, rfl, ⟨[I L x.f7], [I L x.f8, I L x.f9, I L x.f10], rfl, rfl, ⟨[I L x.f8], [I L x.f9, I L x.f10], rfl, rfl, ⟨[I L x.f9], [I L x.f10], rfl, rfl, rfl⟩⟩⟩⟩⟩⟩⟩⟩⟩⟩
theorem k27_mkF (W : World) (ok : Nat → Prop) (x : S27) : Kd.FK k27 W ok x [I L x.f0, I L x.f1.f0.f0, I L x.f1.f0.f1, I L x.f1.f0.f2, I L x.f1.f0.f3, I L x.f1.f0.f4, I L x.f1.f1, I L x.f2.f0.f0, I L x.f2.f0.f1, I L x.f2.f0.f2, I L x.f2.f0.f3, I L x.f2.f0.f4, I L x.f2.f1, I L x.f3, I L x.f4, I L x.f5, I L x.f6, I L x.f7, I L x.f8, I L x.f9, I L x.f10] := fun W2 _ => k27_mk W2 x
def rd_T27 (xs : List S27) (i : Int) : S27 := xs.getD i.toNat z27
theorem at_T27 {w : World} {A : Option Addr} {n : Nat} {xs : List S27} (h : Kd.C k27 w A n xs) (i : Int) (h0 : 0 ≤ i) (h1 : i < n) : ∃ ad , A = some ad ∧ w.cell? (ad.add (i.toNat * 21)) = some (I L (rd_T27 xs i).f0) ∧ w.cell? ⟨(ad.add (i.toNat * 21)).block, (ad.add (i.toNat * 21)).off + 1, none⟩ = some (I L (rd_T27 xs i).f1.f0.f0) ∧ w.cell? ⟨(ad.add (i.toNat * 21)).block, (ad.add (i.toNat * 21)).off + 2, none⟩ = some (I L (rd_T27 xs i).f1.f0.f1) ∧ w.cell? ⟨(ad.add (i.toNat * 21)).block, (ad.add (i.toNat * 21)).off + 3, none⟩ = some (I L (rd_T27 xs i).f1.f0.f2) ∧ w.cell? ⟨(ad.add (i.toNat * 21)).block, (ad.add (i.toNat * 21)).off + 4, none⟩ = some (I L (rd_T27 xs i).f1.f0.f3) ∧ w.cell? ⟨(ad.add (i.toNat * 21)).block, (ad.add (i.toNat * 21)).off + 5, none⟩ = some (I L (rd_T27 xs i).f1.f0.f4) ∧ w.cell? ⟨(ad.add (i.toNat * 21)).block, (ad.add (i.toNat * 21)).off + 6, none⟩ = some (I L (rd_T27 xs i).f1.f1) ∧ w.cell? ⟨(ad.add (i.toNat * 21)).block, (ad.add (i.toNat * 21)).off + 7, none⟩ = some (I L (rd_T27 xs i).f2.f0.f0) ∧ w.cell? ⟨(ad.add (i.toNat * 21)).block, (ad.add (i.toNat * 21)).off + 8, none⟩ = some (I L (rd_T27 xs i).f2.f0.f1) ∧ w.cell? ⟨(ad.add (i.toNat * 21)).block, (ad.add (i.toNat * 21)).off + 9, none⟩ = some (I L (rd_T27 xs i).f2.f0.f2) ∧ w.cell? ⟨(ad.add (i.toNat * 21)).block, (ad.add (i.toNat * 21)).off + 10, none⟩ = some (I L (rd_T27 xs i).f2.f0.f3) ∧ w.cell? ⟨(ad.add (i.toNat * 21)).block, (ad.add (i.toNat * 21)).off + 11, none⟩ = some (I L (rd_T27 xs i).f2.f0.f4) ∧ w.cell? ⟨(ad.add (i.toNat * 21)).block, (ad.add (i.toNat * 21)).off + 12, none⟩ = some (I L (rd_T27 xs i).f2.f1) ∧ w.cell? ⟨(ad.add (i.toNat * 21)).block, (ad.add (i.toNat * 21)).off + 13, none⟩ = some (I L (rd_T27 xs i).f3) ∧ w.cell? ⟨(ad.add (i.toNat * 21)).block, (ad.add (i.toNat * 21)).off + 14, none⟩ = some (I L (rd_T27 xs i).f4) ∧ w.cell? ⟨(ad.add (i.toNat * 21)).block, (ad.add (i.toNat * 21)).off + 15, none⟩ = some (I L (rd_T27 xs i).f5) ∧ w.cell? ⟨(ad.add (i.toNat * 21)).block, (ad.add (i.toNat * 21)).off + 16, none⟩ = some (I L (rd_T27 xs i).f6) ∧ w.cell? ⟨(ad.add (i.toNat * 21)).block, (ad.add (i.toNat * 21)).off + 17, none⟩ = some (I L (rd_T27 xs i).f7) ∧ w.cell? ⟨(ad.add (i.toNat * 21)).block, (ad.add (i.toNat * 21)).off + 18, none⟩ = some (I L (rd_T27 xs i).f8) ∧ w.cell? ⟨(ad.add (i.toNat * 21)).block, (ad.add (i.toNat * 21)).off + 19, none⟩ = some (I L (rd_T27 xs i).f9) ∧ w.cell? ⟨(ad.add (i.toNat * 21)).block, (ad.add (i.toNat * 21)).off + 20, none⟩ = some (I L (rd_T27 xs i).f10) := by
 obtain ⟨ad, c, e, _, hK, hc0⟩ := Kd.C_get h z27 i h0 h1
 have hc : ∀ j u, c[j]? = some u → w.cell? (ad.add (i.toNat * 21 + j)) = some u := hc0
 obtain rfl := k27_open hK
 exact ⟨ad,e,hc 0 _ rfl,by rw [← add_field _ _ 1 (by omega)];exact hc 1 _ rfl,by rw [← add_field _ _ 2 (by omega)];exact hc 2 _ rfl,by rw [← add_field _ _ 3 (by omega)];exact hc 3 _ rfl,by rw [← add_field _ _ 4 (by omega)];exact hc 4 _ rfl,by rw [← add_field _ _ 5 (by omega)];exact hc 5 _ rfl,by rw [← add_field _ _ 6 (by omega)];exact hc 6 _ rfl,by rw [← add_field _ _ 7 (by omega)];exact hc 7 _ rfl,by rw [← add_field _ _ 8 (by omega)];exact hc 8 _ rfl,by rw [← add_field _ _ 9 (by omega)];exact hc 9 _ rfl,by rw [← add_field _ _ 10 (by omega)];exact hc 10 _ rfl,by rw [← add_field _ _ 11 (by omega)];exact hc 11 _ rfl,by rw [← add_field _ _ 12 (by omega)];exact hc 12 _ rfl,by rw [← add_field _ _ 13 (by omega)];exact hc 13 _ rfl,by rw [← add_field _ _ 14 (by omega)];exact hc 14 _ rfl,by rw [← add_field _ _ 15 (by omega)];exact hc 15 _ rfl,by rw [← add_field _ _ 16 (by omega)];exact hc 16 _ rfl,by rw [← add_field _ _ 17 (by omega)];exact hc 17 _ rfl,by rw [← add_field _ _ 18 (by omega)];exact hc 18 _ rfl,by rw [← add_field _ _ 19 (by omega)];exact hc 19 _ rfl,by rw [← add_field _ _ 20 (by omega)];exact hc 20 _ rfl⟩

/-! #### struct type 29 -/
structure S29 where
 f0 : Int
 f1 : Int
 f2 : Int
 f3 : Int
 f4 : Bool
def z29 : S29 := ⟨(0 : Int), (0 : Int), (0 : Int), (0 : Int), false⟩
def k29 : Kd S29 := Kd.iso (Kd.pair (Kd.int .i64) (Kd.pair (Kd.int .i64) (Kd.pair (Kd.int .i64) (Kd.pair (Kd.int .i64) Kd.bool)))) (fun x : S29 => (x.f0, x.f1, x.f2, x.f3, x.f4))
theorem k29_open {w : World} {x : S29} {cs : List Value} (h : k29.K w x cs) : cs = [I L x.f0, I L x.f1, I L x.f2, I L x.f3, .bool x.f4] := by
 obtain ⟨_, _, rfl, rfl, ⟨_, _, rfl, rfl, ⟨_, _, rfl, rfl, ⟨_, _, rfl, rfl, rfl⟩⟩⟩⟩ := h
 exact rfl
theorem k29_openM {w : World} {base : Nat} {ok : Nat → Prop} {x : S29} {cs : List Value} (h : k29.M w base ok x cs) : cs = [I L x.f0, I L x.f1, I L x.f2, I L x.f3, .bool x.f4] := by
 obtain ⟨_, _, rfl, rfl, ⟨_, _, rfl, rfl, ⟨_, _, rfl, rfl, ⟨_, _, rfl, rfl, rfl⟩⟩⟩⟩ := h
 exact rfl
theorem k29_mk (w : World) (x : S29)  : k29.K w x [I L x.f0, I L x.f1, I L x.f2, I L x.f3, .bool x.f4] := ⟨[I L x.f0], [I L x.f1, I L x.f2, I L x.f3, .bool x.f4], rfl, rfl, ⟨[I L x.f1], [I L x.f2, I L x.f3, .bool x.f4], rfl, rfl, ⟨[I L x.f2], [I L x.f3, .bool x.f4], rfl, rfl, ⟨[I L x.f3], [.bool x.f4], rfl, rfl, rfl⟩⟩⟩⟩
theorem k29_mkM (w : World) (base : Nat) (ok : Nat → Prop) (x : S29)  : k29.M w base ok x [I L x.f0, I L x.f1, I L x.f2, I L x.f3, .bool x.f4] := ⟨[I L x.f0], [I L x.f1, I L x.f2, I L x.f3, .bool x.f4], rfl, rfl, ⟨[I L x.f1], [I L x.f2, I L x.f3, .bool x.f4], rfl, rfl, ⟨[I L x.f2], [I L x.f3, .bool x.f4], rfl, rfl, ⟨[I L x.f3], [.bool x.f4], rfl, rfl, rfl⟩⟩⟩⟩
theorem k29_mkF (W : World) (ok : Nat → Prop) (x : S29) : Kd.FK k29 W ok x [I L x.f0, I L x.f1, I L x.f2, I L x.f3, .bool x.f4] := fun W2 _ => k29_mk W2 x
def rd_T29 (xs : List S29) (i : Int) : S29 := xs.getD i.toNat z29
theorem at_T29 {w : World} {A : Option Addr} {n : Nat} {xs : List S29} (h : Kd.C k29 w A n xs) (i : Int) (h0 : 0 ≤ i) (h1 : i < n) : ∃ ad , A = some ad ∧ w.cell? (ad.add (i.toNat * 5)) = some (I L (rd_T29 xs i).f0) ∧ w.cell? ⟨(ad.add (i.toNat * 5)).block, (ad.add (i.toNat * 5)).off + 1, none⟩ = some (I L (rd_T29 xs i).f1) ∧ w.cell? ⟨(ad.add (i.toNat * 5)).block, (ad.add (i.toNat * 5)).off + 2, none⟩ = some (I L (rd_T29 xs i).f2) ∧ w.cell? ⟨(ad.add (i.toNat * 5)).block, (ad.add (i.toNat * 5)).off + 3, none⟩ = some (I L (rd_T29 xs i).f3) ∧ w.cell? ⟨(ad.add (i.toNat * 5)).block, (ad.add (i.toNat * 5)).off + 4, none⟩ = some (.bool (rd_T29 xs i).f4) := by
 obtain ⟨ad, c, e, _, hK, hc0⟩ := Kd.C_get h z29 i h0 h1
 have hc : ∀ j u, c[j]? = some u → w.cell? (ad.add (i.toNat * 5 + j)) = some u := hc0
 obtain rfl := k29_open hK
 exact ⟨ad,e,hc 0 _ rfl,by rw [← add_field _ _ 1 (by omega)];exact hc 1 _ rfl,by rw [← add_field _ _ 2 (by omega)];exact hc 2 _ rfl,by rw [← add_field _ _ 3 (by omega)];exact hc 3 _ rfl,by rw [← add_field _ _ 4 (by omega)];exact hc 4 _ rfl⟩

def rd_L12 (xs : List (List S69)) (i : Int) : (List S69) := xs.getD i.toNat ([] : List S69)
theorem at_L12 {w : World} {A : Option Addr} {n : Nat} {xs : List (List S69)} (h : Kd.C (Kd.slice 69 k69) w A n xs) (i : Int) (h0 : 0 ≤ i) (h1 : i < n) : ∃ ad A0 c0, A = some ad ∧ w.cell? (ad.add i.toNat) = some (Y A0 (rd_L12 xs i).length c0) ∧ (rd_L12 xs i).length ≤ c0 ∧ k69.C w A0 (rd_L12 xs i).length (rd_L12 xs i) := by
 obtain ⟨ad, c, e, _, hK, hc0⟩ := Kd.C_get h ([] : List S69) i h0 h1
 have hc : ∀ j u, c[j]? = some u → w.cell? (ad.add (i.toNat * 1 + j)) = some u := hc0
 obtain ⟨A0, c0, rfl, l0, g0⟩ := hK
 exact ⟨ad, A0, c0, e, by have hq := hc 0 _ rfl; rwa [Nat.mul_one, Nat.add_zero] at hq, l0, g0⟩

/-! #### struct type 32 -/
structure S32 where
 f0 : Int
 f1 : Int
 f2 : Int
 f3 : S27
 f4 : S29
 f5 : (List S69)
def z32 : S32 := ⟨(0 : Int), (0 : Int), (0 : Int), z27, z29, ([] : List S69)⟩
def k32 : Kd S32 := Kd.iso (Kd.pair (Kd.int .i64) (Kd.pair (Kd.int .i64) (Kd.pair (Kd.int .i64) (Kd.pair k27 (Kd.pair k29 (Kd.slice 69 k69)))))) (fun x : S32 => (x.f0, x.f1, x.f2, x.f3, x.f4, x.f5))
theorem k32_open {w : World} {x : S32} {cs : List Value} (h : k32.K w x cs) : ∃ A29 c29, cs = [I L x.f0, I L x.f1, I L x.f2, I L x.f3.f0, I L x.f3.f1.f0.f0, I L x.f3.f1.f0.f1, I L x.f3.f1.f0.f2, I L x.f3.f1.f0.f3, I L x.f3.f1.f0.f4, I L x.f3.f1.f1, I L x.f3.f2.f0.f0, I L x.f3.f2.f0.f1, I L x.f3.f2.f0.f2, I L x.f3.f2.f0.f3, I L x.f3.f2.f0.f4, I L x.f3.f2.f1, I L x.f3.f3, I L x.f3.f4, I L x.f3.f5, I L x.f3.f6, I L x.f3.f7, I L x.f3.f8, I L x.f3.f9, I L x.f3.f10, I L x.f4.f0, I L x.f4.f1, I L x.f4.f2, I L x.f4.f3, .bool x.f4.f4, Y A29 x.f5.length c29] ∧ x.f5.length ≤ c29 ∧ k69.C w A29 x.f5.length x.f5 := by
 obtain ⟨_, _, rfl, rfl, ⟨_, _, rfl, rfl, ⟨_, _, rfl, rfl, ⟨_, _, rfl, s3, ⟨_, _, rfl, s24, ⟨A29, c29, rfl, l29, g29⟩⟩⟩⟩⟩⟩ := h
 obtain rfl := k27_open s3
 obtain rfl := k29_open s24
 exact ⟨A29, c29, rfl, l29, g29⟩
theorem k32_openM {w : World} {base : Nat} {ok : Nat → Prop} {x : S32} {cs : List Value} (h : k32.M w base ok x cs) : ∃ v29, cs = [I L x.f0, I L x.f1, I L x.f2, I L x.f3.f0, I L x.f3.f1.f0.f0, I L x.f3.f1.f0.f1, I L x.f3.f1.f0.f2, I L x.f3.f1.f0.f3, I L x.f3.f1.f0.f4, I L x.f3.f1.f1, I L x.f3.f2.f0.f0, I L x.f3.f2.f0.f1, I L x.f3.f2.f0.f2, I L x.f3.f2.f0.f3, I L x.f3.f2.f0.f4, I L x.f3.f2.f1, I L x.f3.f3, I L x.f3.f4, I L x.f3.f5, I L x.f3.f6, I L x.f3.f7, I L x.f3.f8, I L x.f3.f9, I L x.f3.f10, I L x.f4.f0, I L x.f4.f1, I L x.f4.f2, I L x.f4.f3, .bool x.f4.f4, v29] ∧ k69.R 69 w base ok v29 x.f5 := by
 obtain ⟨_, _, rfl, rfl, ⟨_, _, rfl, rfl, ⟨_, _, rfl, rfl, ⟨_, _, rfl, s3, ⟨_, _, rfl, s24, ⟨v29, rfl, g29⟩⟩⟩⟩⟩⟩ := h
 obtain rfl := k27_openM s3
 obtain rfl := k29_openM s24
 exact ⟨v29, rfl, g29⟩
theorem k32_mk (w : World) (x : S32) {A29 : Option Addr} {c29 : Nat} (l29 : x.f5.length ≤ c29) (g29 : k69.C w A29 x.f5.length x.f5) : k32.K w x [I L x.f0, I L x.f1, I L x.f2, I L x.f3.f0, I L x.f3.f1.f0.f0, I L x.f3.f1.f0.f1, I L x.f3.f1.f0.f2, I L x.f3.f1.f0.f3, I L x.f3.f1.f0.f4, I L x.f3.f1.f1, I L x.f3.f2.f0.f0, I L x.f3.f2.f0.f1, I L x.f3.f2.f0.f2, I L x.f3.f2.f0.f3, I L x.f3.f2.f0.f4, I L x.f3.f2.f1, I L x.f3.f3, I L x.f3.f4, I L x.f3.f5, I L x.f3.f6, I L x.f3.f7, I L x.f3.f8, I L x.f3.f9, I L x.f3.f10, I L x.f4.f0, I L x.f4.f1, I L x.f4.f2, I L x.f4.f3, .bool x.f4.f4, Y A29 x.f5.length c29] := ⟨[I L x.f0], [I L x.f1, I L x.f2, I L x.f3.f0, I L x.f3.f1.f0.f0, I L x.f3.f1.f0.f1, I L x.f3.f1.f0.f2, I L x.f3.f1.f0.f3, I L x.f3.f1.f0.f4, I L x.f3.f1.f1, I L x.f3.f2.f0.f0, I L x.f3.f2.f0.f1, I L x.f3.f2.f0.f2, I L x.f3.f2.f0.f3, I L x.f3.f2.f0.f4, I L x.f3.f2.f1, I L x.f3.f3, I L x.f3.f4, I L x.f3.f5, I L x.f3.f6, I L x.f3.f7, I L x.f3.f8, I L x.f3.f9, I L x.f3.f10, I L x.f4.f0, I L x.f4.f1, I L x.f4.f2, I L x.f4.f3, .bool x.f4.f4, Y A29 x.f5.length c29], rfl, rfl, ⟨[I L x.f1], [I L x.f2, I L x.f3.f0, I L x.f3.f1.f0.f0, I L x.f3.f1.f0.f1, I L x.f3.f1.f0.f2, I L x.f3.f1.f0.f3, I L x.f3.f1.f0.f4, I L x.f3.f1.f1, I L x.f3.f2.f0.f0, I L x.f3.f2.f0.f1, I L x.f3.f2.f0.f2, I L x.f3.f2.f0.f3, I L x.f3.f2.f0.f4, I L x.f3.f2.f1, I L x.f3.f3, I L x.f3.f4, I L x.f3.f5, I L x.f3.f6, I L x.f3.f7, I L x.f3.f8, I L x.f3.f9, I L x.f3.f10, I L x.f4.f0, I L x.f4.f1, I L x.f4.f2, I L x.f4.f3, .bool x.f4.f4, Y A29 x.f5.length c29], rfl, rfl, ⟨[I L x.f2], [I L x.f3.f0, I L x.f3.f1.f0.f0, I L x.f3.f1.f0.f1, I L x.f3.f1.f0.f2, I L x.f3.f1.f0.f3, I L x.f3.f1.f0.f4, I L x.f3.f1.f1, I L x.f3.f2.f0.f0, I L x.f3.f2.f0.f1, I L x.f3.f2.f0.f2, I L x.f3.f2.f0.f3, I L x.f3.f2.f0.f4, I L x.f3.f2.f1, I L x.f3.f3, I L x.f3.f4, I L x.f3.f5, I L x.f3.f6, I L x.f3.f7, I L x.f3.f8, I L x.f3.f9, I L x.f3.f10, I L x.f4.f0, I L x.f4.f1, I L x.f4.f2, I L x.f4.f3, .bool x.f4.f4, Y A29 x.f5.length c29], rfl, rfl, ⟨[I L x.f3.f0, I L x.f3.f1.f0.f0, I L x.f3.f1.f0.f1, I L x.f3.f1.f0.f2, I L x.f3.f1.f0.f3, I L x.f3.f1.f0.f4, I L x.f3.f1.f1, I L x.f3.f2.f0.f0, I L x.f3.f2.f0.f1, I L x.f3.f2.f0.f2, I L x.f3.f2.f0.f3, I L x.f3.f2.f0.f4, I L x.f3.f2.f1, I L x.f3.f3, I L x.f3.f4, I L x.f3.f5, I L x.f3.f6, I L x.f3.f7, I L x.f3.f8, I L x.f3.f9, I L x.f3.f10], [I L x.f4.f0, I L x.f4.f1, I L x.f4.f2, I L x.f4.f3, .bool x.f4.f4, Y A29 x.f5.length c29], rfl, (k27_mk w x.f3 ), ⟨[I L x.f4.f0, I L x.f4.f1, I L x.f4.f2, I L x.f4.f3, .bool x.f4.f4], [Y A29 x.f5.length c29], rfl, (k29_mk w x.f4 ), ⟨A29, c29, rfl, l29, g29⟩⟩⟩⟩⟩⟩
theorem k32_mkM (w : World) (base : Nat) (ok : Nat → Prop) (x : S32) {v29 : Value} (g29 : k69.R 69 w base ok v29 x.f5) : k32.M w base ok x [I L x.f0, I L x.f1, I L x.f2, I L x.f3.f0, I L x.f3.f1.f0.f0, I L x.f3.f1.f0.f1, I L x.f3.f1.f0.f2, I L x.f3.f1.f0.f3, I L x.f3.f1.f0.f4, I L x.f3.f1.f1, I L x.f3.f2.f0.f0, I L x.f3.f2.f0.f1, I L x.f3.f2.f0.f2, I L x.f3.f2.f0.f3, I L x.f3.f2.f0.f4, I L x.f3.f2.f1, I L x.f3.f3, I L x.f3.f4, I L x.f3.f5, I L x.f3.f6, I L x.f3.f7, I L x.f3.f8, I L x.f3.f9, I L x.f3.f10, I L x.f4.f0, I L x.f4.f1, I L x.f4.f2, I L x.f4.f3, .bool x.f4.f4, v29] := ⟨[I L x.f0], [I L x.f1, I L x.f2, I L x.f3.f0, I L x.f3.f1.f0.f0, I L x.f3.f1.f0.f1, I L x.f3.f1.f0.f2, I L x.f3.f1.f0.f3, I L x.f3.f1.f0.f4, I L x.f3.f1.f1, I L x.f3.f2.f0.f0, I L x.f3.f2.f0.f1, I L x.f3.f2.f0.f2, I L x.f3.f2.f0.f3, I L x.f3.f2.f0.f4, I L x.f3.f2.f1, I L x.f3.f3, I L x.f3.f4, I L x.f3.f5, I L x.f3.f6, I L x.f3.f7, I L x.f3.f8, I L x.f3.f9, I L x.f3.f10, I L x.f4.f0, I L x.f4.f1, I L x.f4.f2, I L x.f4.f3, .bool x.f4.f4, v29], rfl, rfl, ⟨[I L x.f1], [I L x.f2, I L x.f3.f0, I L x.f3.f1.f0.f0, I L x.f3.f1.f0.f1, I L x.f3.f1.f0.f2, I L x.f3.f1.f0.f3, I L x.f3.f1.f0.f4, I L x.f3.f1.f1, I L x.f3.f2.f0.f0, I L x.f3.f2.f0.f1, I L x.f3.f2.f0.f2, I L x.f3.f2.f0.f3, I L x.f3.f2.f0.f4, I L x.f3.f2.f1, I L x.f3.f3, I L x.f3.f4, I L x.f3.f5, I L x.f3.f6, I L x.f3.f7, I L x.f3.f8, I L x.f3.f9, I L x.f3.f10, I L x.f4.f0, I L x.f4.f1, I L x.f4.f2, I L x.f4.f3, .bool x.f4.f4, v29], rfl, rfl, ⟨[I L x.f2], [I L x.f3.f0, I L x.f3.f1.f0.f0, I L x.f3.f1.f0.f1, I L x.f3.f1.f0.f2, I L x.f3.f1.f0.f3, I L x.f3.f1.f0.f4, I L x.f3.f1.f1, I L x.f3.f2.f0.f0, I L x.f3.f2.f0.f1, I L x.f3.f2.f0.f2, I L x.f3.f2.f0.f3, I L x.f3.f2.f0.f4, I L x.f3.f2.f1, I L x.f3.f3, I L x.f3.f4, I L x.f3.f5, I L x.f3.f6, I L x.f3.f7, I L x.f3.f8, I L x.f3.f9, I L x.f3.f10, I L x.f4.f0, I L x.f4.f1, I L x.f4.f2, I L x.f4.f3, .bool x.f4.f4, v29], rfl, rfl, ⟨[I L x.f3.f0, I L x.f3.f1.f0.f0, I L x.f3.f1.f0.f1, I L x.f3.f1.f0.f2, I L x.f3.f1.f0.f3, I L x.f3.f1.f0.f4, I L x.f3.f1.f1, I L x.f3.f2.f0.f0, I L x.f3.f2.f0.f1, I L x.f3.f2.f0.f2, I L x.f3.f2.f0.f3, I L x.f3.f2.f0.f4, I L x.f3.f2.f1, I L x.f3.f3, I L x.f3.f4, I L x.f3.f5, I L x.f3.f6, I L x.f3.f7, I L x.f3.f8, I L x.f3.f9, I L x.f3.f10], [I L x.f4.f0, I L x.f4.f1, I L x.f4.f2, I L x.f4.f3, .bool x.f4.f4, v29], rfl, (k27_mkM w base ok x.f3 ), ⟨[I L x.f4.f0, I L x.f4.f1, I L x.f4.f2, I L x.f4.f3, .bool x.f4.f4], [v29], rfl, (k29_mkM w base ok x.f4 ), ⟨v29, rfl, g29⟩⟩⟩⟩⟩⟩
theorem k32_openF {W : World} {ok : Nat → Prop} {x : S32} {cs : List Value} (h : Kd.FK k32 W ok x cs) : ∃ A29 c29, cs = [I L x.f0, I L x.f1, I L x.f2, I L x.f3.f0, I L x.f3.f1.f0.f0, I L x.f3.f1.f0.f1, I L x.f3.f1.f0.f2, I L x.f3.f1.f0.f3, I L x.f3.f1.f0.f4, I L x.f3.f1.f1, I L x.f3.f2.f0.f0, I L x.f3.f2.f0.f1, I L x.f3.f2.f0.f2, I L x.f3.f2.f0.f3, I L x.f3.f2.f0.f4, I L x.f3.f2.f1, I L x.f3.f3, I L x.f3.f4, I L x.f3.f5, I L x.f3.f6, I L x.f3.f7, I L x.f3.f8, I L x.f3.f9, I L x.f3.f10, I L x.f4.f0, I L x.f4.f1, I L x.f4.f2, I L x.f4.f3, .bool x.f4.f4, Y A29 x.f5.length c29] ∧ x.f5.length ≤ c29 ∧ Kd.F k69 W ok A29 x.f5.length x.f5 := by
 obtain ⟨A29, c29, rfl, l29, _⟩ := k32_open (Kd.FK_now h)
 exact ⟨A29,c29,rfl,l29,(fun W' hW=>by obtain ⟨A29_,c29_,he,l29_,g29_⟩:=k32_open (h W' hW);injection (Option.some.inj (show some (Value.slice A29 x.f5.length c29)=some (Value.slice A29_ x.f5.length c29_) from congrArg (fun l=>l[29]?) he)) with ha_ _ _;rw [ha_];exact g29_)⟩
theorem k32_mkF (W : World) (ok : Nat → Prop) (x : S32) {A29 : Option Addr} {c29 : Nat} (l29 : x.f5.length ≤ c29) (g29 : Kd.F k69 W ok A29 x.f5.length x.f5) : Kd.FK k32 W ok x [I L x.f0, I L x.f1, I L x.f2, I L x.f3.f0, I L x.f3.f1.f0.f0, I L x.f3.f1.f0.f1, I L x.f3.f1.f0.f2, I L x.f3.f1.f0.f3, I L x.f3.f1.f0.f4, I L x.f3.f1.f1, I L x.f3.f2.f0.f0, I L x.f3.f2.f0.f1, I L x.f3.f2.f0.f2, I L x.f3.f2.f0.f3, I L x.f3.f2.f0.f4, I L x.f3.f2.f1, I L x.f3.f3, I L x.f3.f4, I L x.f3.f5, I L x.f3.f6, I L x.f3.f7, I L x.f3.f8, I L x.f3.f9, I L x.f3.f10, I L x.f4.f0, I L x.f4.f1, I L x.f4.f2, I L x.f4.f3, .bool x.f4.f4, Y A29 x.f5.length c29] := fun W2 hW => k32_mk W2 x l29 (g29 W2 hW)
def rd_T32 (xs : List S32) (i : Int) : S32 := xs.getD i.toNat z32
theorem at_T32 {w : World} {A : Option Addr} {n : Nat} {xs : List S32} (h : Kd.C k32 w A n xs) (i : Int) (h0 : 0 ≤ i) (h1 : i < n) : ∃ ad A29 c29, A = some ad ∧ w.cell? (ad.add (i.toNat * 30)) = some (I L (rd_T32 xs i).f0) ∧ w.cell? ⟨(ad.add (i.toNat * 30)).block, (ad.add (i.toNat * 30)).off + 1, none⟩ = some (I L (rd_T32 xs i).f1) ∧ w.cell? ⟨(ad.add (i.toNat * 30)).block, (ad.add (i.toNat * 30)).off + 2, none⟩ = some (I L (rd_T32 xs i).f2) ∧ w.cell? ⟨(ad.add (i.toNat * 30)).block, (ad.add (i.toNat * 30)).off + 3, none⟩ = some (I L (rd_T32 xs i).f3.f0) ∧ w.cell? ⟨(ad.add (i.toNat * 30)).block, (ad.add (i.toNat * 30)).off + 4, none⟩ = some (I L (rd_T32 xs i).f3.f1.f0.f0) ∧ w.cell? ⟨(ad.add (i.toNat * 30)).block, (ad.add (i.toNat * 30)).off + 5, none⟩ = some (I L (rd_T32 xs i).f3.f1.f0.f1) ∧ w.cell? ⟨(ad.add (i.toNat * 30)).block, (ad.add (i.toNat * 30)).off + 6, none⟩ = some (I L (rd_T32 xs i).f3.f1.f0.f2) ∧ w.cell? ⟨(ad.add (i.toNat * 30)).block, (ad.add (i.toNat * 30)).off + 7, none⟩ = some (I L (rd_T32 xs i).f3.f1.f0.f3) ∧ w.cell? ⟨(ad.add (i.toNat * 30)).block, (ad.add (i.toNat * 30)).off + 8, none⟩ = some (I L (rd_T32 xs i).f3.f1.f0.f4) ∧ w.cell? ⟨(ad.add (i.toNat * 30)).block, (ad.add (i.toNat * 30)).off + 9, none⟩ = some (I L (rd_T32 xs i).f3.f1.f1) ∧ w.cell? ⟨(ad.add (i.toNat * 30)).block, (ad.add (i.toNat * 30)).off + 10, none⟩ = some (I L (rd_T32 xs i).f3.f2.f0.f0) ∧ w.cell? ⟨(ad.add (i.toNat * 30)).block, (ad.add (i.toNat * 30)).off + 11, none⟩ = some (I L (rd_T32 xs i).f3.f2.f0.f1) ∧ w.cell? ⟨(ad.add (i.toNat * 30)).block, (ad.add (i.toNat * 30)).off + 12, none⟩ = some (I L (rd_T32 xs i).f3.f2.f0.f2) ∧ w.cell? ⟨(ad.add (i.toNat * 30)).block, (ad.add (i.toNat * 30)).off + 13, none⟩ = some (I L (rd_T32 xs i).f3.f2.f0.f3) ∧ w.cell? ⟨(ad.add (i.toNat * 30)).block, (ad.add (i.toNat * 30)).off + 14, none⟩ = some (I L (rd_T32 xs i).f3.f2.f0.f4) ∧ w.cell? ⟨(ad.add (i.toNat * 30)).block, (ad.add (i.toNat * 30)).off + 15, none⟩ = some (I L (rd_T32 xs i).f3.f2.f1) ∧ w.cell? ⟨(ad.add (i.toNat * 30)).block, (ad.add (i.toNat * 30)).off + 16, none⟩ = some (I L (rd_T32 xs i).f3.f3) ∧ w.cell? ⟨(ad.add (i.toNat * 30)).block, (ad.add (i.toNat * 30)).off + 17, none⟩ = some (I L (rd_T32 xs i).f3.f4) ∧ w.cell? ⟨(ad.add (i.toNat * 30)).block, (ad.add (i.toNat * 30)).off + 18, none⟩ = some (I L (rd_T32 xs i).f3.f5) ∧ w.cell? ⟨(ad.add (i.toNat * 30)).block, (ad.add (i.toNat * 30)).off + 19, none⟩ = some (I L (rd_T32 xs i).f3.f6) ∧ w.cell? ⟨(ad.add (i.toNat * 30)).block, (ad.add (i.toNat * 30)).off + 20, none⟩ = some (I L (rd_T32 xs i).f3.f7) ∧ w.cell? ⟨(ad.add (i.toNat * 30)).block, (ad.add (i.toNat * 30)).off + 21, none⟩ = some (I L (rd_T32 xs i).f3.f8) ∧ w.cell? ⟨(ad.add (i.toNat * 30)).block, (ad.add (i.toNat * 30)).off + 22, none⟩ = some (I L (rd_T32 xs i).f3.f9) ∧ w.cell? ⟨(ad.add (i.toNat * 30)).block, (ad.add (i.toNat * 30)).off + 23, none⟩ = some (I L (rd_T32 xs i).f3.f10) ∧ w.cell? ⟨(ad.add (i.toNat * 30)).block, (ad.add (i.toNat * 30)).off + 24, none⟩ = some (I L (rd_T32 xs i).f4.f0) ∧ w.cell? ⟨(ad.add (i.toNat * 30)).block, (ad.add (i.toNat * 30)).off + 25, none⟩ = some (I L (rd_T32 xs i).f4.f1) ∧ w.cell? ⟨(ad.add (i.toNat * 30)).block, (ad.add (i.toNat * 30)).off + 26, none⟩ = some (I L (rd_T32 xs i).f4.f2) ∧ w.cell? ⟨(ad.add (i.toNat * 30)).block, (ad.add (i.toNat * 30)).off + 27, none⟩ = some (I L (rd_T32 xs i).f4.f3) ∧ w.cell? ⟨(ad.add (i.toNat * 30)).block, (ad.add (i.toNat * 30)).off + 28, none⟩ = some (.bool (rd_T32 xs i).f4.f4) ∧ w.cell? ⟨(ad.add (i.toNat * 30)).block, (ad.add (i.toNat * 30)).off + 29, none⟩ = some (Y A29 (rd_T32 xs i).f5.length c29) ∧ (rd_T32 xs i).f5.length ≤ c29 ∧ k69.C w A29 (rd_T32 xs i).f5.length (rd_T32 xs i).f5 := by
 obtain ⟨ad, c, e, _, hK, hc0⟩ := Kd.C_get h z32 i h0 h1
 have hc : ∀ j u, c[j]? = some u → w.cell? (ad.add (i.toNat * 30 + j)) = some u := hc0
 obtain ⟨A29, c29, rfl, l29, g29⟩ := k32_open hK
 exact ⟨ad,A29,c29,e,hc 0 _ rfl,by rw [← add_field _ _ 1 (by omega)];exact hc 1 _ rfl,by rw [← add_field _ _ 2 (by omega)];exact hc 2 _ rfl,by rw [← add_field _ _ 3 (by omega)];exact hc 3 _ rfl,by rw [← add_field _ _ 4 (by omega)];exact hc 4 _ rfl,by rw [← add_field _ _ 5 (by omega)];exact hc 5 _ rfl,by rw [← add_field _ _ 6 (by omega)];exact hc 6 _ rfl,by rw [← add_field _ _ 7 (by omega)];exact hc 7 _ rfl,by rw [← add_field _ _ 8 (by omega)];exact hc 8 _ rfl,by rw [← add_field _ _ 9 (by omega)];exact hc 9 _ rfl,by rw [← add_field _ _ 10 (by omega)];exact hc 10 _ rfl,by rw [← add_field _ _ 11 (by omega)];exact hc 11 _ rfl,by rw [← add_field _ _ 12 (by omega)];exact hc 12 _ rfl,by rw [← add_field _ _ 13 (by omega)];exact hc 13 _ rfl,by rw [← add_field _ _ 14 (by omega)];exact hc 14 _ rfl,by rw [← add_field _ _ 15 (by omega)];exact hc 15 _ rfl,by rw [← add_field _ _ 16 (by omega)];exact hc 16 _ rfl,by rw [← add_field _ _ 17 (by omega)];exact hc 17 _ rfl,by rw [← add_field _ _ 18 (by omega)];exact hc 18 _ rfl,by rw [← add_field _ _ 19 (by omega)];exact hc 19 _ rfl,by rw [← add_field _ _ 20 (by omega)];exact hc 20 _ rfl,by rw [← add_field _ _ 21 (by omega)];exact hc 21 _ rfl,by rw [← add_field _ _ 22 (by omega)];exact hc 22 _ rfl,by rw [← add_field _ _ 23 (by omega)];exact hc 23 _ rfl,by rw [← add_field _ _ 24 (by omega)];exact hc 24 _ rfl,by rw [← add_field _ _ 25 (by omega)];exact hc 25 _ rfl,by rw [← add_field _ _ 26 (by omega)];exact hc 26 _ rfl,by rw [← add_field _ _ 27 (by omega)];exact hc 27 _ rfl,by rw [← add_field _ _ 28 (by omega)];exact hc 28 _ rfl,by rw [← add_field _ _ 29 (by omega)];exact hc 29 _ rfl,l29,g29⟩

end Go.Proofs.Ytjhgkonacdimfab.PFnExactCmdOk
