-- by a program of this session's, over the kit's words
import Derived.Test.YtoacddcbiceeeabProg
import Derived.Below
import Derived.Deep.Draws
import Derived.Deep.AppendLies
import Derived.Maps.AppendAt
import Derived.OwnWalk
import Derived.Laws.BytesArg
import Derived.Laws.MakeOwn
import Derived.Laws.OwnMore
import Derived.Deep.OwnRows
import Derived.Tactics
import Derived.Lib.ConvBytes
import Derived.Laws.Slices
import Derived.WalkKit
import Derived.KernelRfl
import Derived.RowKit3
import Derived.Deep.LoopGhost
import Derived.Deep.QuietTactic
import Derived.BigQuiet
import Derived.WideLaws
import Derived.Deep.DeepCutAuto
import Derived.Deep.CutBlock
import Derived.Deep.RegionHeld3
import Derived.Laws.Rows
import Derived.Lib.AppendStr
import Derived.ArgAppend
import Derived.Laws.IdiomCopy
import Derived.OrdersHeld
import Derived.Laws.BitsLemmas
import Derived.RowKit
import Derived.Test.YtoacddcbiceeeabVWords
import Derived.Test.YtoacddcbiceeeabVOpen
import Derived.Test.YtoacddcbiceeeabVMap
import Derived.Test.YtoacddcbiceeeabWWords
import Derived.Test.YtoacddcbiceeeabWLast
import Derived.Test.YtoacddcbiceeeabWTab
import Derived.Test.YtoacddcbiceeeabWFour
import Derived.Test.YtoacddcbiceeeabWQPut
import Derived.Test.YtoacddcbiceeeabWApart
import Derived.Test.YtoacddcbiceeeabWArr
import Derived.Test.YtoacddcbiceeeabWZeros
import Derived.Test.YtoacddcbiceeeabWFoot
import Derived.Test.YtoacddcbiceeeabWKept
import Derived.Test.YtoacddcbiceeeabWShare
import Derived.Test.YtoacddcbiceeeabWN
import Derived.Test.YtoacddcbiceeeabWFootNe
import Derived.Test.YtoacddcbiceeeabWAt
import Derived.Test.YtoacddcbiceeeabWEqStruct
import Derived.Test.YtoacddcbiceeeabWRepsOne
import Derived.Test.YtoacddcbiceeeabWInv
import Derived.Test.YtoacddcbiceeeabWInvWords
import Derived.Test.YtoacddcbiceeeabWGuard
import Derived.Test.YtoacddcbiceeeabWNEv
import Derived.Test.YtoacddcbiceeeabWMore
namespace Go.Proofs.Ytoacddcbiceeeab.PFnCostAdds
open Go.RowKit Go.Proofs.YtoacddcbiceeeabW.PrintWords Go.Proofs.YtoacddcbiceeeabW.PrintLast Go.Proofs.YtoacddcbiceeeabW.PrintMore Go.Proofs.YtoacddcbiceeeabV
open Go.Value renaming int → I, slice → Y
open Go.IntKind renaming i64 → L
open Aside0 renaming mk → D
open Option renaming bind_eq_some_iff → bs_
attribute [local go_sem] max2_int min2_int max_two min_two max_three min_three max_four min_four   -- for this text's walks alone
set_option linter.unusedVariables false
set_option linter.unusedSimpArgs false



def errW : Option Int → Value
 | none => .nilIface
 | some c => .iface 0 (I L c)
theorem errW_none : errW none = .nilIface := rfl
theorem errW_some (c : Int) : errW (some c) = .iface 0 (I L c) := rfl

theorem info3 : (Try.prog.info? 3).map (fun i => (i.zero, i.size, i.bytes)) = some (some (I L 0), 1, 8) := by kernel_rfl
theorem info5 : (Try.prog.info? 5).map (fun i => (i.zero, i.size, i.bytes)) = some (some (.int .u8 0), 1, 1) := by kernel_rfl
theorem info22 : (Try.prog.info? 22).map (fun i => (i.zero, i.size, i.bytes)) = some (some (Y none 0 0), 1, 24) := by kernel_rfl
theorem info36 : (Try.prog.info? 36).map (fun i => (i.zero, i.size, i.bytes)) = some (some (.agg #[(I L 0), (I L 0), (I L 0), (I L 0), (I L 0), (I L 0), (I L 0), (I L 0), (I L 0), (I L 0), (I L 0), (I L 0), (I L 0), (I L 0), (I L 0), (I L 0), (I L 0)]), 17, 136) := by kernel_rfl
theorem info43 : (Try.prog.info? 43).map (fun i => (i.zero, i.size, i.bytes)) = some (some (.agg #[(I L 0), (I L 0), (I L 0), (I L 0), (I L 0), (I L 0)]), 6, 48) := by kernel_rfl
-- the values' own types
/-! #### struct type 29 -/
structure S29 where
 f0 : Int
 f1 : Int
 f2 : Int
def z29 : S29 := ⟨(0 : Int), (0 : Int), (0 : Int)⟩
def k29 : Kd S29 := Kd.iso (Kd.pair (Kd.int .i64) (Kd.pair (Kd.int .i64) (Kd.int .i64))) (fun x : S29 => (x.f0, x.f1, x.f2))
theorem k29_open {w : World} {x : S29} {cs : List Value} (h : k29.K w x cs) : cs = [I L x.f0, I L x.f1, I L x.f2] := by
 obtain ⟨_, _, rfl, rfl, ⟨_, _, rfl, rfl, rfl⟩⟩ := h
 exact rfl
theorem k29_openM {w : World} {base : Nat} {ok : Nat → Prop} {x : S29} {cs : List Value} (h : k29.M w base ok x cs) : cs = [I L x.f0, I L x.f1, I L x.f2] := by
 obtain ⟨_, _, rfl, rfl, ⟨_, _, rfl, rfl, rfl⟩⟩ := h
 exact rfl
theorem k29_mk (w : World) (x : S29)  : k29.K w x [I L x.f0, I L x.f1, I L x.f2] := ⟨[I L x.f0], [I L x.f1, I L x.f2], rfl, rfl, ⟨[I L x.f1], [I L x.f2], rfl, rfl, rfl⟩⟩
theorem k29_mkM (w : World) (base : Nat) (ok : Nat → Prop) (x : S29)  : k29.M w base ok x [I L x.f0, I L x.f1, I L x.f2] := ⟨[I L x.f0], [I L x.f1, I L x.f2], rfl, rfl, ⟨[I L x.f1], [I L x.f2], rfl, rfl, rfl⟩⟩
theorem k29_mkF (W : World) (ok : Nat → Prop) (x : S29) : Kd.FK k29 W ok x [I L x.f0, I L x.f1, I L x.f2] := fun W2 _ => k29_mk W2 x
def rd_T29 (xs : List S29) (i : Int) : S29 := xs.getD i.toNat z29
theorem at_T29 {w : World} {A : Option Addr} {n : Nat} {xs : List S29} (h : Kd.C k29 w A n xs) (i : Int) (h0 : 0 ≤ i) (h1 : i < n) : ∃ ad , A = some ad ∧ w.cell? (ad.add (i.toNat * 3)) = some (I L (rd_T29 xs i).f0) ∧ w.cell? ⟨(ad.add (i.toNat * 3)).block, (ad.add (i.toNat * 3)).off + 1, none⟩ = some (I L (rd_T29 xs i).f1) ∧ w.cell? ⟨(ad.add (i.toNat * 3)).block, (ad.add (i.toNat * 3)).off + 2, none⟩ = some (I L (rd_T29 xs i).f2) := by
 obtain ⟨ad, c, e, _, hK, hc0⟩ := Kd.C_get h z29 i h0 h1
 have hc : ∀ j u, c[j]? = some u → w.cell? (ad.add (i.toNat * 3 + j)) = some u := hc0
 obtain rfl := k29_open hK
 exact ⟨ad, e, hc 0 _ rfl, by rw [← add_field _ _ 1 (by omega)]; exact hc 1 _ rfl, by rw [← add_field _ _ 2 (by omega)]; exact hc 2 _ rfl⟩

/-! #### struct type 43 -/
structure S43 where
 f0 : S29
 f1 : S29
def z43 : S43 := ⟨z29, z29⟩
def k43 : Kd S43 := Kd.iso (Kd.pair k29 k29) (fun x : S43 => (x.f0, x.f1))
theorem k43_open {w : World} {x : S43} {cs : List Value} (h : k43.K w x cs) : cs = [I L x.f0.f0, I L x.f0.f1, I L x.f0.f2, I L x.f1.f0, I L x.f1.f1, I L x.f1.f2] := by
 obtain ⟨_, _, rfl, s0, s3⟩ := h
 obtain rfl := k29_open s0
 obtain rfl := k29_open s3
 exact rfl
theorem k43_openM {w : World} {base : Nat} {ok : Nat → Prop} {x : S43} {cs : List Value} (h : k43.M w base ok x cs) : cs = [I L x.f0.f0, I L x.f0.f1, I L x.f0.f2, I L x.f1.f0, I L x.f1.f1, I L x.f1.f2] := by
 obtain ⟨_, _, rfl, s0, s3⟩ := h
 obtain rfl := k29_openM s0
 obtain rfl := k29_openM s3
 exact rfl
theorem k43_mk (w : World) (x : S43)  : k43.K w x [I L x.f0.f0, I L x.f0.f1, I L x.f0.f2, I L x.f1.f0, I L x.f1.f1, I L x.f1.f2] := ⟨[I L x.f0.f0, I L x.f0.f1, I L x.f0.f2], [I L x.f1.f0, I L x.f1.f1, I L x.f1.f2], rfl, (k29_mk w x.f0 ), (k29_mk w x.f1 )⟩
theorem k43_mkM (w : World) (base : Nat) (ok : Nat → Prop) (x : S43)  : k43.M w base ok x [I L x.f0.f0, I L x.f0.f1, I L x.f0.f2, I L x.f1.f0, I L x.f1.f1, I L x.f1.f2] := ⟨[I L x.f0.f0, I L x.f0.f1, I L x.f0.f2], [I L x.f1.f0, I L x.f1.f1, I L x.f1.f2], rfl, (k29_mkM w base ok x.f0 ), (k29_mkM w base ok x.f1 )⟩
theorem k43_mkF (W : World) (ok : Nat → Prop) (x : S43) : Kd.FK k43 W ok x [I L x.f0.f0, I L x.f0.f1, I L x.f0.f2, I L x.f1.f0, I L x.f1.f1, I L x.f1.f2] := fun W2 _ => k43_mk W2 x
def rd_T43 (xs : List S43) (i : Int) : S43 := xs.getD i.toNat z43
theorem at_T43 {w : World} {A : Option Addr} {n : Nat} {xs : List S43} (h : Kd.C k43 w A n xs) (i : Int) (h0 : 0 ≤ i) (h1 : i < n) : ∃ ad , A = some ad ∧ w.cell? (ad.add (i.toNat * 6)) = some (I L (rd_T43 xs i).f0.f0) ∧ w.cell? ⟨(ad.add (i.toNat * 6)).block, (ad.add (i.toNat * 6)).off + 1, none⟩ = some (I L (rd_T43 xs i).f0.f1) ∧ w.cell? ⟨(ad.add (i.toNat * 6)).block, (ad.add (i.toNat * 6)).off + 2, none⟩ = some (I L (rd_T43 xs i).f0.f2) ∧ w.cell? ⟨(ad.add (i.toNat * 6)).block, (ad.add (i.toNat * 6)).off + 3, none⟩ = some (I L (rd_T43 xs i).f1.f0) ∧ w.cell? ⟨(ad.add (i.toNat * 6)).block, (ad.add (i.toNat * 6)).off + 4, none⟩ = some (I L (rd_T43 xs i).f1.f1) ∧ w.cell? ⟨(ad.add (i.toNat * 6)).block, (ad.add (i.toNat * 6)).off + 5, none⟩ = some (I L (rd_T43 xs i).f1.f2) := by
 obtain ⟨ad, c, e, _, hK, hc0⟩ := Kd.C_get h z43 i h0 h1
 have hc : ∀ j u, c[j]? = some u → w.cell? (ad.add (i.toNat * 6 + j)) = some u := hc0
 obtain rfl := k43_open hK
 exact ⟨ad,e,hc 0 _ rfl,by rw [← add_field _ _ 1 (by omega)];exact hc 1 _ rfl,by rw [← add_field _ _ 2 (by omega)];exact hc 2 _ rfl,by rw [← add_field _ _ 3 (by omega)];exact hc 3 _ rfl,by rw [← add_field _ _ 4 (by omega)];exact hc 4 _ rfl,by rw [← add_field _ _ 5 (by omega)];exact hc 5 _ rfl⟩

/-! #### struct type 32 -/
structure S32 where
 f0 : Int
 f1 : Int
 f2 : Int
 f3 : Int
 f4 : Int
def z32 : S32 := ⟨(0 : Int), (0 : Int), (0 : Int), (0 : Int), (0 : Int)⟩
def k32 : Kd S32 := Kd.iso (Kd.pair (Kd.int .i64) (Kd.pair (Kd.int .i64) (Kd.pair (Kd.int .i64) (Kd.pair (Kd.int .i64) (Kd.int .i64))))) (fun x : S32 => (x.f0, x.f1, x.f2, x.f3, x.f4))
theorem k32_open {w : World} {x : S32} {cs : List Value} (h : k32.K w x cs) : cs = [I L x.f0, I L x.f1, I L x.f2, I L x.f3, I L x.f4] := by
 obtain ⟨_, _, rfl, rfl, ⟨_, _, rfl, rfl, ⟨_, _, rfl, rfl, ⟨_, _, rfl, rfl, rfl⟩⟩⟩⟩ := h
 exact rfl
theorem k32_openM {w : World} {base : Nat} {ok : Nat → Prop} {x : S32} {cs : List Value} (h : k32.M w base ok x cs) : cs = [I L x.f0, I L x.f1, I L x.f2, I L x.f3, I L x.f4] := by
 obtain ⟨_, _, rfl, rfl, ⟨_, _, rfl, rfl, ⟨_, _, rfl, rfl, ⟨_, _, rfl, rfl, rfl⟩⟩⟩⟩ := h
 exact rfl
theorem k32_mk (w : World) (x : S32)  : k32.K w x [I L x.f0, I L x.f1, I L x.f2, I L x.f3, I L x.f4] := ⟨[I L x.f0], [I L x.f1, I L x.f2, I L x.f3, I L x.f4], rfl, rfl, ⟨[I L x.f1], [I L x.f2, I L x.f3, I L x.f4], rfl, rfl, ⟨[I L x.f2], [I L x.f3, I L x.f4], rfl, rfl, ⟨[I L x.f3], [I L x.f4], rfl, rfl, rfl⟩⟩⟩⟩
theorem k32_mkM (w : World) (base : Nat) (ok : Nat → Prop) (x : S32)  : k32.M w base ok x [I L x.f0, I L x.f1, I L x.f2, I L x.f3, I L x.f4] := ⟨[I L x.f0], [I L x.f1, I L x.f2, I L x.f3, I L x.f4], rfl, rfl, ⟨[I L x.f1], [I L x.f2, I L x.f3, I L x.f4], rfl, rfl, ⟨[I L x.f2], [I L x.f3, I L x.f4], rfl, rfl, ⟨[I L x.f3], [I L x.f4], rfl, rfl, rfl⟩⟩⟩⟩
theorem k32_mkF (W : World) (ok : Nat → Prop) (x : S32) : Kd.FK k32 W ok x [I L x.f0, I L x.f1, I L x.f2, I L x.f3, I L x.f4] := fun W2 _ => k32_mk W2 x
def rd_T32 (xs : List S32) (i : Int) : S32 := xs.getD i.toNat z32
theorem at_T32 {w : World} {A : Option Addr} {n : Nat} {xs : List S32} (h : Kd.C k32 w A n xs) (i : Int) (h0 : 0 ≤ i) (h1 : i < n) : ∃ ad , A = some ad ∧ w.cell? (ad.add (i.toNat * 5)) = some (I L (rd_T32 xs i).f0) ∧ w.cell? ⟨(ad.add (i.toNat * 5)).block, (ad.add (i.toNat * 5)).off + 1, none⟩ = some (I L (rd_T32 xs i).f1) ∧ w.cell? ⟨(ad.add (i.toNat * 5)).block, (ad.add (i.toNat * 5)).off + 2, none⟩ = some (I L (rd_T32 xs i).f2) ∧ w.cell? ⟨(ad.add (i.toNat * 5)).block, (ad.add (i.toNat * 5)).off + 3, none⟩ = some (I L (rd_T32 xs i).f3) ∧ w.cell? ⟨(ad.add (i.toNat * 5)).block, (ad.add (i.toNat * 5)).off + 4, none⟩ = some (I L (rd_T32 xs i).f4) := by
 obtain ⟨ad, c, e, _, hK, hc0⟩ := Kd.C_get h z32 i h0 h1
 have hc : ∀ j u, c[j]? = some u → w.cell? (ad.add (i.toNat * 5 + j)) = some u := hc0
 obtain rfl := k32_open hK
 exact ⟨ad,e,hc 0 _ rfl,by rw [← add_field _ _ 1 (by omega)];exact hc 1 _ rfl,by rw [← add_field _ _ 2 (by omega)];exact hc 2 _ rfl,by rw [← add_field _ _ 3 (by omega)];exact hc 3 _ rfl,by rw [← add_field _ _ 4 (by omega)];exact hc 4 _ rfl⟩

/-! #### struct type 34 -/
structure S34 where
 f0 : S32
 f1 : Int
def z34 : S34 := ⟨z32, (0 : Int)⟩
def k34 : Kd S34 := Kd.iso (Kd.pair k32 (Kd.int .i64)) (fun x : S34 => (x.f0, x.f1))
theorem k34_open {w : World} {x : S34} {cs : List Value} (h : k34.K w x cs) : cs = [I L x.f0.f0, I L x.f0.f1, I L x.f0.f2, I L x.f0.f3, I L x.f0.f4, I L x.f1] := by
 obtain ⟨_, _, rfl, s0, rfl⟩ := h
 obtain rfl := k32_open s0
 exact rfl
theorem k34_openM {w : World} {base : Nat} {ok : Nat → Prop} {x : S34} {cs : List Value} (h : k34.M w base ok x cs) : cs = [I L x.f0.f0, I L x.f0.f1, I L x.f0.f2, I L x.f0.f3, I L x.f0.f4, I L x.f1] := by
 obtain ⟨_, _, rfl, s0, rfl⟩ := h
 obtain rfl := k32_openM s0
 exact rfl
theorem k34_mk (w : World) (x : S34)  : k34.K w x [I L x.f0.f0, I L x.f0.f1, I L x.f0.f2, I L x.f0.f3, I L x.f0.f4, I L x.f1] := ⟨[I L x.f0.f0, I L x.f0.f1, I L x.f0.f2, I L x.f0.f3, I L x.f0.f4], [I L x.f1], rfl, (k32_mk w x.f0 ), rfl⟩
theorem k34_mkM (w : World) (base : Nat) (ok : Nat → Prop) (x : S34)  : k34.M w base ok x [I L x.f0.f0, I L x.f0.f1, I L x.f0.f2, I L x.f0.f3, I L x.f0.f4, I L x.f1] := ⟨[I L x.f0.f0, I L x.f0.f1, I L x.f0.f2, I L x.f0.f3, I L x.f0.f4], [I L x.f1], rfl, (k32_mkM w base ok x.f0 ), rfl⟩
theorem k34_mkF (W : World) (ok : Nat → Prop) (x : S34) : Kd.FK k34 W ok x [I L x.f0.f0, I L x.f0.f1, I L x.f0.f2, I L x.f0.f3, I L x.f0.f4, I L x.f1] := fun W2 _ => k34_mk W2 x
def rd_T34 (xs : List S34) (i : Int) : S34 := xs.getD i.toNat z34
theorem at_T34 {w : World} {A : Option Addr} {n : Nat} {xs : List S34} (h : Kd.C k34 w A n xs) (i : Int) (h0 : 0 ≤ i) (h1 : i < n) : ∃ ad , A = some ad ∧ w.cell? (ad.add (i.toNat * 6)) = some (I L (rd_T34 xs i).f0.f0) ∧ w.cell? ⟨(ad.add (i.toNat * 6)).block, (ad.add (i.toNat * 6)).off + 1, none⟩ = some (I L (rd_T34 xs i).f0.f1) ∧ w.cell? ⟨(ad.add (i.toNat * 6)).block, (ad.add (i.toNat * 6)).off + 2, none⟩ = some (I L (rd_T34 xs i).f0.f2) ∧ w.cell? ⟨(ad.add (i.toNat * 6)).block, (ad.add (i.toNat * 6)).off + 3, none⟩ = some (I L (rd_T34 xs i).f0.f3) ∧ w.cell? ⟨(ad.add (i.toNat * 6)).block, (ad.add (i.toNat * 6)).off + 4, none⟩ = some (I L (rd_T34 xs i).f0.f4) ∧ w.cell? ⟨(ad.add (i.toNat * 6)).block, (ad.add (i.toNat * 6)).off + 5, none⟩ = some (I L (rd_T34 xs i).f1) := by
 obtain ⟨ad, c, e, _, hK, hc0⟩ := Kd.C_get h z34 i h0 h1
 have hc : ∀ j u, c[j]? = some u → w.cell? (ad.add (i.toNat * 6 + j)) = some u := hc0
 obtain rfl := k34_open hK
 exact ⟨ad,e,hc 0 _ rfl,by rw [← add_field _ _ 1 (by omega)];exact hc 1 _ rfl,by rw [← add_field _ _ 2 (by omega)];exact hc 2 _ rfl,by rw [← add_field _ _ 3 (by omega)];exact hc 3 _ rfl,by rw [← add_field _ _ 4 (by omega)];exact hc 4 _ rfl,by rw [← add_field _ _ 5 (by omega)];exact hc 5 _ rfl⟩

/-! #### struct type 36 -/
structure S36 where
 f0 : Int
 f1 : S34
 f2 : S34
 f3 : Int
 f4 : Int
 f5 : Int
 f6 : Int
def z36 : S36 := ⟨(0 : Int), z34, z34, (0 : Int), (0 : Int), (0 : Int), (0 : Int)⟩
def k36 : Kd S36 := Kd.iso (Kd.pair (Kd.int .i64) (Kd.pair k34 (Kd.pair k34 (Kd.pair (Kd.int .i64) (Kd.pair (Kd.int .i64) (Kd.pair (Kd.int .i64) (Kd.int .i64))))))) (fun x : S36 => (x.f0, x.f1, x.f2, x.f3, x.f4, x.f5, x.f6))
theorem k36_open {w : World} {x : S36} {cs : List Value} (h : k36.K w x cs) : cs = [I L x.f0, I L x.f1.f0.f0, I L x.f1.f0.f1, I L x.f1.f0.f2, I L x.f1.f0.f3, I L x.f1.f0.f4, I L x.f1.f1, I L x.f2.f0.f0, I L x.f2.f0.f1, I L x.f2.f0.f2, I L x.f2.f0.f3, I L x.f2.f0.f4, I L x.f2.f1, I L x.f3, I L x.f4, I L x.f5, I L x.f6] := by
 obtain ⟨_, _, rfl, rfl, ⟨_, _, rfl, s1, ⟨_, _, rfl, s7, ⟨_, _, rfl, rfl, ⟨_, _, rfl, rfl, ⟨_, _, rfl, rfl, rfl⟩⟩⟩⟩⟩⟩ := h
 obtain rfl := k34_open s1
 obtain rfl := k34_open s7
 exact rfl
theorem k36_openM {w : World} {base : Nat} {ok : Nat → Prop} {x : S36} {cs : List Value} (h : k36.M w base ok x cs) : cs = [I L x.f0, I L x.f1.f0.f0, I L x.f1.f0.f1, I L x.f1.f0.f2, I L x.f1.f0.f3, I L x.f1.f0.f4, I L x.f1.f1, I L x.f2.f0.f0, I L x.f2.f0.f1, I L x.f2.f0.f2, I L x.f2.f0.f3, I L x.f2.f0.f4, I L x.f2.f1, I L x.f3, I L x.f4, I L x.f5, I L x.f6] := by
 obtain ⟨_, _, rfl, rfl, ⟨_, _, rfl, s1, ⟨_, _, rfl, s7, ⟨_, _, rfl, rfl, ⟨_, _, rfl, rfl, ⟨_, _, rfl, rfl, rfl⟩⟩⟩⟩⟩⟩ := h
 obtain rfl := k34_openM s1
 obtain rfl := k34_openM s7
 exact rfl
theorem k36_mk (w : World) (x : S36)  : k36.K w x [I L x.f0, I L x.f1.f0.f0, I L x.f1.f0.f1, I L x.f1.f0.f2, I L x.f1.f0.f3, I L x.f1.f0.f4, I L x.f1.f1, I L x.f2.f0.f0, I L x.f2.f0.f1, I L x.f2.f0.f2, I L x.f2.f0.f3, I L x.f2.f0.f4, I L x.f2.f1, I L x.f3, I L x.f4, I L x.f5, I L x.f6] := ⟨[I L x.f0], [I L x.f1.f0.f0, I L x.f1.f0.f1, I L x.f1.f0.f2, I L x.f1.f0.f3, I L x.f1.f0.f4, I L x.f1.f1, I L x.f2.f0.f0, I L x.f2.f0.f1, I L x.f2.f0.f2, I L x.f2.f0.f3, I L x.f2.f0.f4, I L x.f2.f1, I L x.f3, I L x.f4, I L x.f5, I L x.f6], rfl, rfl, ⟨[I L x.f1.f0.f0, I L x.f1.f0.f1, I L x.f1.f0.f2, I L x.f1.f0.f3, I L x.f1.f0.f4, I L x.f1.f1], [I L x.f2.f0.f0, I L x.f2.f0.f1, I L x.f2.f0.f2, I L x.f2.f0.f3, I L x.f2.f0.f4, I L x.f2.f1, I L x.f3, I L x.f4, I L x.f5, I L x.f6], rfl, (k34_mk w x.f1 ), ⟨[I L x.f2.f0.f0, I L x.f2.f0.f1, I L x.f2.f0.f2, I L x.f2.f0.f3, I L x.f2.f0.f4, I L x.f2.f1], [I L x.f3, I L x.f4, I L x.f5, I L x.f6], rfl, (k34_mk w x.f2 ), ⟨[I L x.f3], [I L x.f4, I L x.f5, I L x.f6], rfl, rfl, ⟨[I L x.f4], [I L x.f5, I L x.f6], rfl, rfl, ⟨[I L x.f5], [I L x.f6], rfl, rfl, rfl⟩⟩⟩⟩⟩⟩
theorem k36_mkM (w : World) (base : Nat) (ok : Nat → Prop) (x : S36)  : k36.M w base ok x [I L x.f0, I L x.f1.f0.f0, I L x.f1.f0.f1, I L x.f1.f0.f2, I L x.f1.f0.f3, I L x.f1.f0.f4, I L x.f1.f1, I L x.f2.f0.f0, I L x.f2.f0.f1, I L x.f2.f0.f2, I L x.f2.f0.f3, I L x.f2.f0.f4, I L x.f2.f1, I L x.f3, I L x.f4, I L x.f5, I L x.f6] := ⟨[I L x.f0], [I L x.f1.f0.f0, I L x.f1.f0.f1, I L x.f1.f0.f2, I L x.f1.f0.f3, I L x.f1.f0.f4, I L x.f1.f1, I L x.f2.f0.f0, I L x.f2.f0.f1, I L x.f2.f0.f2, I L x.f2.f0.f3, I L x.f2.f0.f4, I L x.f2.f1, I L x.f3, I L x.f4, I L x.f5, I L x.f6], rfl, rfl, ⟨[I L x.f1.f0.f0, I L x.f1.f0.f1, I L x.f1.f0.f2, I L x.f1.f0.f3, I L x.f1.f0.f4, I L x.f1.f1], [I L x.f2.f0.f0, I L x.f2.f0.f1, I L x.f2.f0.f2, I L x.f2.f0.f3, I L x.f2.f0.f4, I L x.f2.f1, I L x.f3, I L x.f4, I L x.f5, I L x.f6], rfl, (k34_mkM w base ok x.f1 ), ⟨[I L x.f2.f0.f0, I L x.f2.f0.f1, I L x.f2.f0.f2, I L x.f2.f0.f3, I L x.f2.f0.f4, I L x.f2.f1], [I L x.f3, I L x.f4, I L x.f5, I L x.f6], rfl, (k34_mkM w base ok x.f2 ), ⟨[I L x.f3], [I L x.f4, I L x.f5, I L x.f6], rfl, rfl, ⟨[I L x.f4], [I L x.f5, I L x.f6], rfl, rfl, ⟨[I L x.f5], [I L x.f6], rfl, rfl, rfl⟩⟩⟩⟩⟩⟩
theorem k36_mkF (W : World) (ok : Nat → Prop) (x : S36) : Kd.FK k36 W ok x [I L x.f0, I L x.f1.f0.f0, I L x.f1.f0.f1, I L x.f1.f0.f2, I L x.f1.f0.f3, I L x.f1.f0.f4, I L x.f1.f1, I L x.f2.f0.f0, I L x.f2.f0.f1, I L x.f2.f0.f2, I L x.f2.f0.f3, I L x.f2.f0.f4, I L x.f2.f1, I L x.f3, I L x.f4, I L x.f5, I L x.f6] := fun W2 _ => k36_mk W2 x
def rd_T36 (xs : List S36) (i : Int) : S36 := xs.getD i.toNat z36
theorem at_T36 {w : World} {A : Option Addr} {n : Nat} {xs : List S36} (h : Kd.C k36 w A n xs) (i : Int) (h0 : 0 ≤ i) (h1 : i < n) : ∃ ad , A = some ad ∧ w.cell? (ad.add (i.toNat * 17)) = some (I L (rd_T36 xs i).f0) ∧ w.cell? ⟨(ad.add (i.toNat * 17)).block, (ad.add (i.toNat * 17)).off + 1, none⟩ = some (I L (rd_T36 xs i).f1.f0.f0) ∧ w.cell? ⟨(ad.add (i.toNat * 17)).block, (ad.add (i.toNat * 17)).off + 2, none⟩ = some (I L (rd_T36 xs i).f1.f0.f1) ∧ w.cell? ⟨(ad.add (i.toNat * 17)).block, (ad.add (i.toNat * 17)).off + 3, none⟩ = some (I L (rd_T36 xs i).f1.f0.f2) ∧ w.cell? ⟨(ad.add (i.toNat * 17)).block, (ad.add (i.toNat * 17)).off + 4, none⟩ = some (I L (rd_T36 xs i).f1.f0.f3) ∧ w.cell? ⟨(ad.add (i.toNat * 17)).block, (ad.add (i.toNat * 17)).off + 5, none⟩ = some (I L (rd_T36 xs i).f1.f0.f4) ∧ w.cell? ⟨(ad.add (i.toNat * 17)).block, (ad.add (i.toNat * 17)).off + 6, none⟩ = some (I L (rd_T36 xs i).f1.f1) ∧ w.cell? ⟨(ad.add (i.toNat * 17)).block, (ad.add (i.toNat * 17)).off + 7, none⟩ = some (I L (rd_T36 xs i).f2.f0.f0) ∧ w.cell? ⟨(ad.add (i.toNat * 17)).block, (ad.add (i.toNat * 17)).off + 8, none⟩ = some (I L (rd_T36 xs i).f2.f0.f1) ∧ w.cell? ⟨(ad.add (i.toNat * 17)).block, (ad.add (i.toNat * 17)).off + 9, none⟩ = some (I L (rd_T36 xs i).f2.f0.f2) ∧ w.cell? ⟨(ad.add (i.toNat * 17)).block, (ad.add (i.toNat * 17)).off + 10, none⟩ = some (I L (rd_T36 xs i).f2.f0.f3) ∧ w.cell? ⟨(ad.add (i.toNat * 17)).block, (ad.add (i.toNat * 17)).off + 11, none⟩ = some (I L (rd_T36 xs i).f2.f0.f4) ∧ w.cell? ⟨(ad.add (i.toNat * 17)).block, (ad.add (i.toNat * 17)).off + 12, none⟩ = some (I L (rd_T36 xs i).f2.f1) ∧ w.cell? ⟨(ad.add (i.toNat * 17)).block, (ad.add (i.toNat * 17)).off + 13, none⟩ = some (I L (rd_T36 xs i).f3) ∧ w.cell? ⟨(ad.add (i.toNat * 17)).block, (ad.add (i.toNat * 17)).off + 14, none⟩ = some (I L (rd_T36 xs i).f4) ∧ w.cell? ⟨(ad.add (i.toNat * 17)).block, (ad.add (i.toNat * 17)).off + 15, none⟩ = some (I L (rd_T36 xs i).f5) ∧ w.cell? ⟨(ad.add (i.toNat * 17)).block, (ad.add (i.toNat * 17)).off + 16, none⟩ = some (I L (rd_T36 xs i).f6) := by
 obtain ⟨ad, c, e, _, hK, hc0⟩ := Kd.C_get h z36 i h0 h1
 have hc : ∀ j u, c[j]? = some u → w.cell? (ad.add (i.toNat * 17 + j)) = some u := hc0
 obtain rfl := k36_open hK
 exact ⟨ad,e,hc 0 _ rfl,by rw [← add_field _ _ 1 (by omega)];exact hc 1 _ rfl,by rw [← add_field _ _ 2 (by omega)];exact hc 2 _ rfl,by rw [← add_field _ _ 3 (by omega)];exact hc 3 _ rfl,by rw [← add_field _ _ 4 (by omega)];exact hc 4 _ rfl,by rw [← add_field _ _ 5 (by omega)];exact hc 5 _ rfl,by rw [← add_field _ _ 6 (by omega)];exact hc 6 _ rfl,by rw [← add_field _ _ 7 (by omega)];exact hc 7 _ rfl,by rw [← add_field _ _ 8 (by omega)];exact hc 8 _ rfl,by rw [← add_field _ _ 9 (by omega)];exact hc 9 _ rfl,by rw [← add_field _ _ 10 (by omega)];exact hc 10 _ rfl,by rw [← add_field _ _ 11 (by omega)];exact hc 11 _ rfl,by rw [← add_field _ _ 12 (by omega)];exact hc 12 _ rfl,by rw [← add_field _ _ 13 (by omega)];exact hc 13 _ rfl,by rw [← add_field _ _ 14 (by omega)];exact hc 14 _ rfl,by rw [← add_field _ _ 15 (by omega)];exact hc 15 _ rfl,by rw [← add_field _ _ 16 (by omega)];exact hc 16 _ rfl⟩

def rd_L7 (xs : List (List Int)) (i : Int) : (List Int) := xs.getD i.toNat ([] : List Int)
theorem at_L7 {w : World} {A : Option Addr} {n : Nat} {xs : List (List Int)} (h : Kd.C (Kd.slice 5 (Kd.int .u8)) w A n xs) (i : Int) (h0 : 0 ≤ i) (h1 : i < n) : ∃ ad A0 c0, A = some ad ∧ w.cell? (ad.add i.toNat) = some (Y A0 (rd_L7 xs i).length c0) ∧ (rd_L7 xs i).length ≤ c0 ∧ (Kd.int .u8).C w A0 (rd_L7 xs i).length (rd_L7 xs i) := by
 obtain ⟨ad, c, e, _, hK, hc0⟩ := Kd.C_get h ([] : List Int) i h0 h1
 have hc : ∀ j u, c[j]? = some u → w.cell? (ad.add (i.toNat * 1 + j)) = some u := hc0
 obtain ⟨A0, c0, rfl, l0, g0⟩ := hK
 exact ⟨ad, A0, c0, e, by have hq := hc 0 _ rfl; rwa [Nat.mul_one, Nat.add_zero] at hq, l0, g0⟩

end Go.Proofs.Ytoacddcbiceeeab.PFnCostAdds
