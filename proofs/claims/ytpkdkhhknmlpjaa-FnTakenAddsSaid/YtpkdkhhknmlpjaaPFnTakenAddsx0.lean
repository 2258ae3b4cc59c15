-- by a program of this session's, over the kit's words
import Derived.Test.YtpkdkhhknmlpjaaProg
import Derived.Below
import Derived.Deep.Draws
import Derived.Deep.AppendLies
import Derived.Maps.AppendAt
import Derived.OwnWalk
import Derived.Laws.BytesArg
import Derived.Laws.MakeOwn
import Derived.Laws.OwnMore
import Derived.Deep.OwnRows
import Derived.Tactics
import Derived.Lib.ConvBytes
import Derived.Laws.Slices
import Derived.WalkKit
import Derived.KernelRfl
import Derived.RowKit3
import Derived.Deep.LoopGhost
import Derived.Deep.QuietTactic
import Derived.BigQuiet
import Derived.WideLaws
import Derived.Deep.DeepCutAuto
import Derived.Deep.CutBlock
import Derived.Deep.RegionHeld3
import Derived.Laws.Rows
import Derived.Lib.AppendStr
import Derived.ArgAppend
import Derived.Laws.IdiomCopy
import Derived.OrdersHeld
import Derived.Laws.BitsLemmas
import Derived.RowKit
import Derived.Test.YtpkdkhhknmlpjaaVWords
import Derived.Test.YtpkdkhhknmlpjaaVOpen
import Derived.Test.YtpkdkhhknmlpjaaVMap
import Derived.Test.YtpkdkhhknmlpjaaWWords
import Derived.Test.YtpkdkhhknmlpjaaWLast
import Derived.Test.YtpkdkhhknmlpjaaWTab
import Derived.Test.YtpkdkhhknmlpjaaWFour
import Derived.Test.YtpkdkhhknmlpjaaWQPut
import Derived.Test.YtpkdkhhknmlpjaaWApart
import Derived.Test.YtpkdkhhknmlpjaaWArr
import Derived.Test.YtpkdkhhknmlpjaaWZeros
import Derived.Test.YtpkdkhhknmlpjaaWFoot
import Derived.Test.YtpkdkhhknmlpjaaWKept
import Derived.Test.YtpkdkhhknmlpjaaWShare
import Derived.Test.YtpkdkhhknmlpjaaWN
import Derived.Test.YtpkdkhhknmlpjaaWFootNe
import Derived.Test.YtpkdkhhknmlpjaaWAt
import Derived.Test.YtpkdkhhknmlpjaaWEqStruct
import Derived.Test.YtpkdkhhknmlpjaaWRepsOne
import Derived.Test.YtpkdkhhknmlpjaaWInv
import Derived.Test.YtpkdkhhknmlpjaaWInvWords
import Derived.Test.YtpkdkhhknmlpjaaWGuard
import Derived.Test.YtpkdkhhknmlpjaaWNEv
import Derived.Test.YtpkdkhhknmlpjaaWMore
namespace Go.Proofs.Ytpkdkhhknmlpjaa.PFnTakenAdds
open Go.RowKit Go.Proofs.YtpkdkhhknmlpjaaW.PrintWords Go.Proofs.YtpkdkhhknmlpjaaW.PrintLast Go.Proofs.YtpkdkhhknmlpjaaW.PrintMore Go.Proofs.YtpkdkhhknmlpjaaV
open Go.Value renaming int → I, slice → Y
open Go.IntKind renaming i64 → L
open Aside0 renaming mk → D
open Option renaming bind_eq_some_iff → bs_
attribute [local go_sem] max2_int min2_int max_two min_two max_three min_three max_four min_four   -- for this text's walks alone
set_option linter.unusedVariables false
set_option linter.unusedSimpArgs false



def errW : Option Int → Value
 | none => .nilIface
 | some c => .iface 0 (I L c)
theorem errW_none : errW none = .nilIface := rfl
theorem errW_some (c : Int) : errW (some c) = .iface 0 (I L c) := rfl

theorem info3 : (Try.prog.info? 3).map (fun i => (i.zero, i.size, i.bytes)) = some (some (I L 0), 1, 8) := by kernel_rfl
theorem info33 : (Try.prog.info? 33).map (fun i => (i.zero, i.size, i.bytes)) = some (some (Y none 0 0), 1, 24) := by kernel_rfl
theorem info44 : (Try.prog.info? 44).map (fun i => (i.zero, i.size, i.bytes)) = some (some (.agg #[(I L 0), (I L 0), (I L 0), (I L 0), (I L 0), (Y none 0 0)]), 6, 64) := by kernel_rfl
theorem info77 : (Try.prog.info? 77).map (fun i => (i.zero, i.size, i.bytes)) = some (some (.agg #[(I L 0), (I L 0), (I L 0), (I L 0), (I L 0), (I L 0), (.bool false)]), 7, 56) := by kernel_rfl
theorem info83 : (Try.prog.info? 83).map (fun i => (i.zero, i.size, i.bytes)) = some (some (.agg #[(I L 0), (I L 0), (.bool false), (I L 0), (I L 0), (I L 0)]), 6, 48) := by kernel_rfl
-- the values' own types
/-! #### struct type 29 -/
structure S29 where
 f0 : Int
 f1 : Int
 f2 : Int
def z29 : S29 := ⟨(0 : Int), (0 : Int), (0 : Int)⟩
def k29 : Kd S29 := Kd.iso (Kd.pair (Kd.int .i64) (Kd.pair (Kd.int .i64) (Kd.int .i64))) (fun x : S29 => (x.f0, x.f1, x.f2))
theorem k29_heap : Kd.Heap k29 := Kd.heap_iso _ (Kd.heap_pair (Kd.heap_int .i64) (Kd.heap_pair (Kd.heap_int .i64) (Kd.heap_int .i64)))
theorem k29_open {w : World} {x : S29} {cs : List Value} (h : k29.K w x cs) : cs = [I L x.f0, I L x.f1, I L x.f2] := by
 obtain ⟨_, _, rfl, rfl, ⟨_, _, rfl, rfl, rfl⟩⟩ := h
 exact rfl
theorem k29_openM {w : World} {base : Nat} {ok : Nat → Prop} {x : S29} {cs : List Value} (h : k29.M w base ok x cs) : cs = [I L x.f0, I L x.f1, I L x.f2] := by
 obtain ⟨_, _, rfl, rfl, ⟨_, _, rfl, rfl, rfl⟩⟩ := h
 exact rfl
theorem k29_mk (w : World) (x : S29)  : k29.K w x [I L x.f0, I L x.f1, I L x.f2] := ⟨[I L x.f0], [I L x.f1, I L x.f2], rfl, rfl, ⟨[I L x.f1], [I L x.f2], rfl, rfl, rfl⟩⟩
theorem k29_mkM (w : World) (base : Nat) (ok : Nat → Prop) (x : S29)  : k29.M w base ok x [I L x.f0, I L x.f1, I L x.f2] := ⟨[I L x.f0], [I L x.f1, I L x.f2], rfl, rfl, ⟨[I L x.f1], [I L x.f2], rfl, rfl, rfl⟩⟩
theorem k29_mkF (W : World) (ok : Nat → Prop) (x : S29) : Kd.FK k29 W ok x [I L x.f0, I L x.f1, I L x.f2] := fun W2 _ => k29_mk W2 x
def rd_T29 (xs : List S29) (i : Int) : S29 := xs.getD i.toNat z29
theorem at_T29 {w : World} {A : Option Addr} {n : Nat} {xs : List S29} (h : Kd.C k29 w A n xs) (i : Int) (h0 : 0 ≤ i) (h1 : i < n) : ∃ ad , A = some ad ∧ w.cell? (ad.add (i.toNat * 3)) = some (I L (rd_T29 xs i).f0) ∧ w.cell? ⟨(ad.add (i.toNat * 3)).block, (ad.add (i.toNat * 3)).off + 1, none⟩ = some (I L (rd_T29 xs i).f1) ∧ w.cell? ⟨(ad.add (i.toNat * 3)).block, (ad.add (i.toNat * 3)).off + 2, none⟩ = some (I L (rd_T29 xs i).f2) := by
 obtain ⟨ad, c, e, _, hK, hc0⟩ := Kd.C_get h z29 i h0 h1
 have hc : ∀ j u, c[j]? = some u → w.cell? (ad.add (i.toNat * 3 + j)) = some u := hc0
 obtain rfl := k29_open hK
 exact ⟨ad, e, hc 0 _ rfl, by rw [← add_field _ _ 1 (by omega)]; exact hc 1 _ rfl, by rw [← add_field _ _ 2 (by omega)]; exact hc 2 _ rfl⟩

/-! #### struct type 83 -/
structure S83 where
 f0 : Int
 f1 : Int
 f2 : Bool
 f3 : S29
def z83 : S83 := ⟨(0 : Int), (0 : Int), false, z29⟩
def k83 : Kd S83 := Kd.iso (Kd.pair (Kd.int .i64) (Kd.pair (Kd.int .i64) (Kd.pair Kd.bool k29))) (fun x : S83 => (x.f0, x.f1, x.f2, x.f3))
theorem k83_heap : Kd.Heap k83 := Kd.heap_iso _ (Kd.heap_pair (Kd.heap_int .i64) (Kd.heap_pair (Kd.heap_int .i64) (Kd.heap_pair Kd.heap_bool k29_heap)))
theorem k83_open {w : World} {x : S83} {cs : List Value} (h : k83.K w x cs) : cs = [I L x.f0, I L x.f1, .bool x.f2, I L x.f3.f0, I L x.f3.f1, I L x.f3.f2] := by
 obtain ⟨_, _, rfl, rfl, ⟨_, _, rfl, rfl, ⟨_, _, rfl, rfl, s3⟩⟩⟩ := h
 obtain rfl := k29_open s3
 exact rfl
theorem k83_openM {w : World} {base : Nat} {ok : Nat → Prop} {x : S83} {cs : List Value} (h : k83.M w base ok x cs) : cs = [I L x.f0, I L x.f1, .bool x.f2, I L x.f3.f0, I L x.f3.f1, I L x.f3.f2] := by
 obtain ⟨_, _, rfl, rfl, ⟨_, _, rfl, rfl, ⟨_, _, rfl, rfl, s3⟩⟩⟩ := h
 obtain rfl := k29_openM s3
 exact rfl
theorem k83_mk (w : World) (x : S83)  : k83.K w x [I L x.f0, I L x.f1, .bool x.f2, I L x.f3.f0, I L x.f3.f1, I L x.f3.f2] := ⟨[I L x.f0], [I L x.f1, .bool x.f2, I L x.f3.f0, I L x.f3.f1, I L x.f3.f2], rfl, rfl, ⟨[I L x.f1], [.bool x.f2, I L x.f3.f0, I L x.f3.f1, I L x.f3.f2], rfl, rfl, ⟨[.bool x.f2], [I L x.f3.f0, I L x.f3.f1, I L x.f3.f2], rfl, rfl, (k29_mk w x.f3 )⟩⟩⟩
theorem k83_mkM (w : World) (base : Nat) (ok : Nat → Prop) (x : S83)  : k83.M w base ok x [I L x.f0, I L x.f1, .bool x.f2, I L x.f3.f0, I L x.f3.f1, I L x.f3.f2] := ⟨[I L x.f0], [I L x.f1, .bool x.f2, I L x.f3.f0, I L x.f3.f1, I L x.f3.f2], rfl, rfl, ⟨[I L x.f1], [.bool x.f2, I L x.f3.f0, I L x.f3.f1, I L x.f3.f2], rfl, rfl, ⟨[.bool x.f2], [I L x.f3.f0, I L x.f3.f1, I L x.f3.f2], rfl, rfl, (k29_mkM w base ok x.f3 )⟩⟩⟩
theorem k83_mkF (W : World) (ok : Nat → Prop) (x : S83) : Kd.FK k83 W ok x [I L x.f0, I L x.f1, .bool x.f2, I L x.f3.f0, I L x.f3.f1, I L x.f3.f2] := fun W2 _ => k83_mk W2 x
def rd_T83 (xs : List S83) (i : Int) : S83 := xs.getD i.toNat z83
theorem at_T83 {w : World} {A : Option Addr} {n : Nat} {xs : List S83} (h : Kd.C k83 w A n xs) (i : Int) (h0 : 0 ≤ i) (h1 : i < n) : ∃ ad , A = some ad ∧ w.cell? (ad.add (i.toNat * 6)) = some (I L (rd_T83 xs i).f0) ∧ w.cell? ⟨(ad.add (i.toNat * 6)).block, (ad.add (i.toNat * 6)).off + 1, none⟩ = some (I L (rd_T83 xs i).f1) ∧ w.cell? ⟨(ad.add (i.toNat * 6)).block, (ad.add (i.toNat * 6)).off + 2, none⟩ = some (.bool (rd_T83 xs i).f2) ∧ w.cell? ⟨(ad.add (i.toNat * 6)).block, (ad.add (i.toNat * 6)).off + 3, none⟩ = some (I L (rd_T83 xs i).f3.f0) ∧ w.cell? ⟨(ad.add (i.toNat * 6)).block, (ad.add (i.toNat * 6)).off + 4, none⟩ = some (I L (rd_T83 xs i).f3.f1) ∧ w.cell? ⟨(ad.add (i.toNat * 6)).block, (ad.add (i.toNat * 6)).off + 5, none⟩ = some (I L (rd_T83 xs i).f3.f2) := by
 obtain ⟨ad, c, e, _, hK, hc0⟩ := Kd.C_get h z83 i h0 h1
 have hc : ∀ j u, c[j]? = some u → w.cell? (ad.add (i.toNat * 6 + j)) = some u := hc0
 obtain rfl := k83_open hK
 exact ⟨ad,e,hc 0 _ rfl,by rw [← add_field _ _ 1 (by omega)];exact hc 1 _ rfl,by rw [← add_field _ _ 2 (by omega)];exact hc 2 _ rfl,by rw [← add_field _ _ 3 (by omega)];exact hc 3 _ rfl,by rw [← add_field _ _ 4 (by omega)];exact hc 4 _ rfl,by rw [← add_field _ _ 5 (by omega)];exact hc 5 _ rfl⟩

/-! #### struct type 77 -/
structure S77 where
 f0 : Int
 f1 : Int
 f2 : Int
 f3 : S29
 f4 : Bool
def z77 : S77 := ⟨(0 : Int), (0 : Int), (0 : Int), z29, false⟩
def k77 : Kd S77 := Kd.iso (Kd.pair (Kd.int .i64) (Kd.pair (Kd.int .i64) (Kd.pair (Kd.int .i64) (Kd.pair k29 Kd.bool)))) (fun x : S77 => (x.f0, x.f1, x.f2, x.f3, x.f4))
theorem k77_heap : Kd.Heap k77 := Kd.heap_iso _ (Kd.heap_pair (Kd.heap_int .i64) (Kd.heap_pair (Kd.heap_int .i64) (Kd.heap_pair (Kd.heap_int .i64) (Kd.heap_pair k29_heap Kd.heap_bool))))
theorem k77_open {w : World} {x : S77} {cs : List Value} (h : k77.K w x cs) : cs = [I L x.f0, I L x.f1, I L x.f2, I L x.f3.f0, I L x.f3.f1, I L x.f3.f2, .bool x.f4] := by
 obtain ⟨_, _, rfl, rfl, ⟨_, _, rfl, rfl, ⟨_, _, rfl, rfl, ⟨_, _, rfl, s3, rfl⟩⟩⟩⟩ := h
 obtain rfl := k29_open s3
 exact rfl
theorem k77_openM {w : World} {base : Nat} {ok : Nat → Prop} {x : S77} {cs : List Value} (h : k77.M w base ok x cs) : cs = [I L x.f0, I L x.f1, I L x.f2, I L x.f3.f0, I L x.f3.f1, I L x.f3.f2, .bool x.f4] := by
 obtain ⟨_, _, rfl, rfl, ⟨_, _, rfl, rfl, ⟨_, _, rfl, rfl, ⟨_, _, rfl, s3, rfl⟩⟩⟩⟩ := h
 obtain rfl := k29_openM s3
 exact rfl
theorem k77_mk (w : World) (x : S77)  : k77.K w x [I L x.f0, I L x.f1, I L x.f2, I L x.f3.f0, I L x.f3.f1, I L x.f3.f2, .bool x.f4] := ⟨[I L x.f0], [I L x.f1, I L x.f2, I L x.f3.f0, I L x.f3.f1, I L x.f3.f2, .bool x.f4], rfl, rfl, ⟨[I L x.f1], [I L x.f2, I L x.f3.f0, I L x.f3.f1, I L x.f3.f2, .bool x.f4], rfl, rfl, ⟨[I L x.f2], [I L x.f3.f0, I L x.f3.f1, I L x.f3.f2, .bool x.f4], rfl, rfl, ⟨[I L x.f3.f0, I L x.f3.f1, I L x.f3.f2], [.bool x.f4], rfl, (k29_mk w x.f3 ), rfl⟩⟩⟩⟩
theorem k77_mkM (w : World) (base : Nat) (ok : Nat → Prop) (x : S77)  : k77.M w base ok x [I L x.f0, I L x.f1, I L x.f2, I L x.f3.f0, I L x.f3.f1, I L x.f3.f2, .bool x.f4] := ⟨[I L x.f0], [I L x.f1, I L x.f2, I L x.f3.f0, I L x.f3.f1, I L x.f3.f2, .bool x.f4], rfl, rfl, ⟨[I L x.f1], [I L x.f2, I L x.f3.f0, I L x.f3.f1, I L x.f3.f2, .bool x.f4], rfl, rfl, ⟨[I L x.f2], [I L x.f3.f0, I L x.f3.f1, I L x.f3.f2, .bool x.f4], rfl, rfl, ⟨[I L x.f3.f0, I L x.f3.f1, I L x.f3.f2], [.bool x.f4], rfl, (k29_mkM w base ok x.f3 ), rfl⟩⟩⟩⟩
theorem k77_mkF (W : World) (ok : Nat → Prop) (x : S77) : Kd.FK k77 W ok x [I L x.f0, I L x.f1, I L x.f2, I L x.f3.f0, I L x.f3.f1, I L x.f3.f2, .bool x.f4] := fun W2 _ => k77_mk W2 x
def rd_T77 (xs : List S77) (i : Int) : S77 := xs.getD i.toNat z77
theorem at_T77 {w : World} {A : Option Addr} {n : Nat} {xs : List S77} (h : Kd.C k77 w A n xs) (i : Int) (h0 : 0 ≤ i) (h1 : i < n) : ∃ ad , A = some ad ∧ w.cell? (ad.add (i.toNat * 7)) = some (I L (rd_T77 xs i).f0) ∧ w.cell? ⟨(ad.add (i.toNat * 7)).block, (ad.add (i.toNat * 7)).off + 1, none⟩ = some (I L (rd_T77 xs i).f1) ∧ w.cell? ⟨(ad.add (i.toNat * 7)).block, (ad.add (i.toNat * 7)).off + 2, none⟩ = some (I L (rd_T77 xs i).f2) ∧ w.cell? ⟨(ad.add (i.toNat * 7)).block, (ad.add (i.toNat * 7)).off + 3, none⟩ = some (I L (rd_T77 xs i).f3.f0) ∧ w.cell? ⟨(ad.add (i.toNat * 7)).block, (ad.add (i.toNat * 7)).off + 4, none⟩ = some (I L (rd_T77 xs i).f3.f1) ∧ w.cell? ⟨(ad.add (i.toNat * 7)).block, (ad.add (i.toNat * 7)).off + 5, none⟩ = some (I L (rd_T77 xs i).f3.f2) ∧ w.cell? ⟨(ad.add (i.toNat * 7)).block, (ad.add (i.toNat * 7)).off + 6, none⟩ = some (.bool (rd_T77 xs i).f4) := by
 obtain ⟨ad, c, e, _, hK, hc0⟩ := Kd.C_get h z77 i h0 h1
 have hc : ∀ j u, c[j]? = some u → w.cell? (ad.add (i.toNat * 7 + j)) = some u := hc0
 obtain rfl := k77_open hK
 exact ⟨ad,e,hc 0 _ rfl,by rw [← add_field _ _ 1 (by omega)];exact hc 1 _ rfl,by rw [← add_field _ _ 2 (by omega)];exact hc 2 _ rfl,by rw [← add_field _ _ 3 (by omega)];exact hc 3 _ rfl,by rw [← add_field _ _ 4 (by omega)];exact hc 4 _ rfl,by rw [← add_field _ _ 5 (by omega)];exact hc 5 _ rfl,by rw [← add_field _ _ 6 (by omega)];exact hc 6 _ rfl⟩

def rd_L6 (xs : List (List Int)) (i : Int) : (List Int) := xs.getD i.toNat ([] : List Int)
theorem at_L6 {w : World} {A : Option Addr} {n : Nat} {xs : List (List Int)} (h : Kd.C (Kd.slice 3 (Kd.int .i64)) w A n xs) (i : Int) (h0 : 0 ≤ i) (h1 : i < n) : ∃ ad A0 c0, A = some ad ∧ w.cell? (ad.add i.toNat) = some (Y A0 (rd_L6 xs i).length c0) ∧ (rd_L6 xs i).length ≤ c0 ∧ (Kd.int .i64).C w A0 (rd_L6 xs i).length (rd_L6 xs i) := by
 obtain ⟨ad, c, e, _, hK, hc0⟩ := Kd.C_get h ([] : List Int) i h0 h1
 have hc : ∀ j u, c[j]? = some u → w.cell? (ad.add (i.toNat * 1 + j)) = some u := hc0
 obtain ⟨A0, c0, rfl, l0, g0⟩ := hK
 exact ⟨ad, A0, c0, e, by have hq := hc 0 _ rfl; rwa [Nat.mul_one, Nat.add_zero] at hq, l0, g0⟩

/-! #### struct type 44 -/
structure S44 where
 f0 : Int
 f1 : Int
 f2 : S29
 f3 : (List Int)
def z44 : S44 := ⟨(0 : Int), (0 : Int), z29, ([] : List Int)⟩
def k44 : Kd S44 := Kd.iso (Kd.pair (Kd.int .i64) (Kd.pair (Kd.int .i64) (Kd.pair k29 (Kd.slice 3 (Kd.int .i64))))) (fun x : S44 => (x.f0, x.f1, x.f2, x.f3))
theorem k44_heap : Kd.Heap k44 := Kd.heap_iso _ (Kd.heap_pair (Kd.heap_int .i64) (Kd.heap_pair (Kd.heap_int .i64) (Kd.heap_pair k29_heap (Kd.heap_slice 3 (Kd.heap_int .i64)))))
theorem k44_open {w : World} {x : S44} {cs : List Value} (h : k44.K w x cs) : ∃ A5 c5, cs = [I L x.f0, I L x.f1, I L x.f2.f0, I L x.f2.f1, I L x.f2.f2, Y A5 x.f3.length c5] ∧ x.f3.length ≤ c5 ∧ (Kd.int .i64).C w A5 x.f3.length x.f3 := by
 obtain ⟨_, _, rfl, rfl, ⟨_, _, rfl, rfl, ⟨_, _, rfl, s2, ⟨A5, c5, rfl, l5, g5⟩⟩⟩⟩ := h
 obtain rfl := k29_open s2
 exact ⟨A5, c5, rfl, l5, g5⟩
theorem k44_openM {w : World} {base : Nat} {ok : Nat → Prop} {x : S44} {cs : List Value} (h : k44.M w base ok x cs) : ∃ v5, cs = [I L x.f0, I L x.f1, I L x.f2.f0, I L x.f2.f1, I L x.f2.f2, v5] ∧ (Kd.int .i64).R 3 w base ok v5 x.f3 := by
 obtain ⟨_, _, rfl, rfl, ⟨_, _, rfl, rfl, ⟨_, _, rfl, s2, ⟨v5, rfl, g5⟩⟩⟩⟩ := h
 obtain rfl := k29_openM s2
 exact ⟨v5, rfl, g5⟩
theorem k44_mk (w : World) (x : S44) {A5 : Option Addr} {c5 : Nat} (l5 : x.f3.length ≤ c5) (g5 : (Kd.int .i64).C w A5 x.f3.length x.f3) : k44.K w x [I L x.f0, I L x.f1, I L x.f2.f0, I L x.f2.f1, I L x.f2.f2, Y A5 x.f3.length c5] := ⟨[I L x.f0], [I L x.f1, I L x.f2.f0, I L x.f2.f1, I L x.f2.f2, Y A5 x.f3.length c5], rfl, rfl, ⟨[I L x.f1], [I L x.f2.f0, I L x.f2.f1, I L x.f2.f2, Y A5 x.f3.length c5], rfl, rfl, ⟨[I L x.f2.f0, I L x.f2.f1, I L x.f2.f2], [Y A5 x.f3.length c5], rfl, (k29_mk w x.f2 ), ⟨A5, c5, rfl, l5, g5⟩⟩⟩⟩
theorem k44_mkM (w : World) (base : Nat) (ok : Nat → Prop) (x : S44) {v5 : Value} (g5 : (Kd.int .i64).R 3 w base ok v5 x.f3) : k44.M w base ok x [I L x.f0, I L x.f1, I L x.f2.f0, I L x.f2.f1, I L x.f2.f2, v5] := ⟨[I L x.f0], [I L x.f1, I L x.f2.f0, I L x.f2.f1, I L x.f2.f2, v5], rfl, rfl, ⟨[I L x.f1], [I L x.f2.f0, I L x.f2.f1, I L x.f2.f2, v5], rfl, rfl, ⟨[I L x.f2.f0, I L x.f2.f1, I L x.f2.f2], [v5], rfl, (k29_mkM w base ok x.f2 ), ⟨v5, rfl, g5⟩⟩⟩⟩
theorem k44_openF {W : World} {ok : Nat → Prop} {x : S44} {cs : List Value} (h : Kd.FK k44 W ok x cs) : ∃ A5 c5, cs = [I L x.f0, I L x.f1, I L x.f2.f0, I L x.f2.f1, I L x.f2.f2, Y A5 x.f3.length c5] ∧ x.f3.length ≤ c5 ∧ Kd.F (Kd.int .i64) W ok A5 x.f3.length x.f3 := by
 obtain ⟨A5, c5, rfl, l5, _⟩ := k44_open (Kd.FK_now h)
 exact ⟨A5,c5,rfl,l5,(fun W' hW=>by obtain ⟨A5_,c5_,he,l5_,g5_⟩:=k44_open (h W' hW);injection (Option.some.inj (show some (Value.slice A5 x.f3.length c5)=some (Value.slice A5_ x.f3.length c5_) from congrArg (fun l=>l[5]?) he)) with ha_ _ _;rw [ha_];exact g5_)⟩
theorem k44_mkF (W : World) (ok : Nat → Prop) (x : S44) {A5 : Option Addr} {c5 : Nat} (l5 : x.f3.length ≤ c5) (g5 : Kd.F (Kd.int .i64) W ok A5 x.f3.length x.f3) : Kd.FK k44 W ok x [I L x.f0, I L x.f1, I L x.f2.f0, I L x.f2.f1, I L x.f2.f2, Y A5 x.f3.length c5] := fun W2 hW => k44_mk W2 x l5 (g5 W2 hW)
def rd_T44 (xs : List S44) (i : Int) : S44 := xs.getD i.toNat z44
theorem at_T44 {w : World} {A : Option Addr} {n : Nat} {xs : List S44} (h : Kd.C k44 w A n xs) (i : Int) (h0 : 0 ≤ i) (h1 : i < n) : ∃ ad A5 c5, A = some ad ∧ w.cell? (ad.add (i.toNat * 6)) = some (I L (rd_T44 xs i).f0) ∧ w.cell? ⟨(ad.add (i.toNat * 6)).block, (ad.add (i.toNat * 6)).off + 1, none⟩ = some (I L (rd_T44 xs i).f1) ∧ w.cell? ⟨(ad.add (i.toNat * 6)).block, (ad.add (i.toNat * 6)).off + 2, none⟩ = some (I L (rd_T44 xs i).f2.f0) ∧ w.cell? ⟨(ad.add (i.toNat * 6)).block, (ad.add (i.toNat * 6)).off + 3, none⟩ = some (I L (rd_T44 xs i).f2.f1) ∧ w.cell? ⟨(ad.add (i.toNat * 6)).block, (ad.add (i.toNat * 6)).off + 4, none⟩ = some (I L (rd_T44 xs i).f2.f2) ∧ w.cell? ⟨(ad.add (i.toNat * 6)).block, (ad.add (i.toNat * 6)).off + 5, none⟩ = some (Y A5 (rd_T44 xs i).f3.length c5) ∧ (rd_T44 xs i).f3.length ≤ c5 ∧ (Kd.int .i64).C w A5 (rd_T44 xs i).f3.length (rd_T44 xs i).f3 := by
 obtain ⟨ad, c, e, _, hK, hc0⟩ := Kd.C_get h z44 i h0 h1
 have hc : ∀ j u, c[j]? = some u → w.cell? (ad.add (i.toNat * 6 + j)) = some u := hc0
 obtain ⟨A5, c5, rfl, l5, g5⟩ := k44_open hK
 exact ⟨ad,A5,c5,e,hc 0 _ rfl,by rw [← add_field _ _ 1 (by omega)];exact hc 1 _ rfl,by rw [← add_field _ _ 2 (by omega)];exact hc 2 _ rfl,by rw [← add_field _ _ 3 (by omega)];exact hc 3 _ rfl,by rw [← add_field _ _ 4 (by omega)];exact hc 4 _ rfl,by rw [← add_field _ _ 5 (by omega)];exact hc 5 _ rfl,l5,g5⟩

end Go.Proofs.Ytpkdkhhknmlpjaa.PFnTakenAdds
