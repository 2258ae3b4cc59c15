-- by a program of this session's, over the kit's words
import Derived.Test.YtjfknflhajeglabProg
import Derived.Below
import Derived.Deep.Draws
import Derived.Deep.AppendLies
import Derived.Maps.AppendAt
import Derived.OwnWalk
import Derived.Laws.BytesArg
import Derived.Laws.MakeOwn
import Derived.Laws.OwnMore
import Derived.Deep.OwnRows
import Derived.Tactics
import Derived.Lib.ConvBytes
import Derived.Laws.Slices
import Derived.WalkKit
import Derived.KernelRfl
import Derived.RowKit3
import Derived.Deep.LoopGhost
import Derived.Deep.QuietTactic
import Derived.BigQuiet
import Derived.WideLaws
import Derived.Deep.DeepCutAuto
import Derived.Deep.CutBlock
import Derived.Deep.RegionHeld3
import Derived.Laws.Rows
import Derived.Lib.AppendStr
import Derived.ArgAppend
import Derived.Laws.IdiomCopy
import Derived.OrdersHeld
import Derived.Laws.BitsLemmas
import Derived.RowKit
import Derived.Test.YtjfknflhajeglabVWords
import Derived.Test.YtjfknflhajeglabVOpen
import Derived.Test.YtjfknflhajeglabVMap
import Derived.Lib.Overlaps
import Derived.Lib.AppendZerosOnto
import Derived.Test.YtjfknflhajeglabWWords
import Derived.Test.YtjfknflhajeglabWLast
import Derived.Test.YtjfknflhajeglabWTab
import Derived.Test.YtjfknflhajeglabWFour
import Derived.Test.YtjfknflhajeglabWQPut
import Derived.Test.YtjfknflhajeglabWApart
import Derived.Test.YtjfknflhajeglabWArr
import Derived.Test.YtjfknflhajeglabWZeros
import Derived.Test.YtjfknflhajeglabWFoot
import Derived.Test.YtjfknflhajeglabWKept
import Derived.Test.YtjfknflhajeglabWShare
import Derived.Test.YtjfknflhajeglabWN
import Derived.Test.YtjfknflhajeglabWFootNe
import Derived.Test.YtjfknflhajeglabWAt
import Derived.Test.YtjfknflhajeglabWEqStruct
import Derived.Test.YtjfknflhajeglabWRepsOne
import Derived.Test.YtjfknflhajeglabWInv
import Derived.Test.YtjfknflhajeglabWInvWords
import Derived.Test.YtjfknflhajeglabWGuard
import Derived.Test.YtjfknflhajeglabWNEv
import Derived.Test.YtjfknflhajeglabWMore
namespace Go.Proofs.Ytjfknflhajeglab.PFnExactTreeTenant
open Go.RowKit Go.Proofs.YtjfknflhajeglabW.PrintWords Go.Proofs.YtjfknflhajeglabW.PrintLast Go.Proofs.YtjfknflhajeglabW.PrintMore Go.Proofs.YtjfknflhajeglabV
open Go.Value renaming int → I, slice → Y
open Go.IntKind renaming i64 → L
open Aside0 renaming mk → D
open Option renaming bind_eq_some_iff → bs_
attribute [local go_sem] max2_int min2_int max_two min_two max_three min_three max_four min_four   -- for this text's walks alone
set_option linter.unusedVariables false
set_option linter.unusedSimpArgs false



def errW : Option Int → Value
 | none => .nilIface
 | some c => .iface 0 (I L c)
theorem errW_none : errW none = .nilIface := rfl
theorem errW_some (c : Int) : errW (some c) = .iface 0 (I L c) := rfl

theorem info3 : (Try.prog.info? 3).map (fun i => (i.zero, i.size, i.bytes)) = some (some (I L 0), 1, 8) := by kernel_rfl
theorem info51 : (Try.prog.info? 51).map (fun i => (i.zero, i.size, i.bytes)) = some (some (.agg #[(I L 0), (I L 0), (.bool false), (I L 0), (I L 0), (I L 0)]), 6, 48) := by kernel_rfl
theorem info54 : (Try.prog.info? 54).map (fun i => (i.zero, i.size, i.bytes)) = some (some (.agg #[(I L 0), (I L 0), (I L 0), (I L 0), (I L 0), (Y none 0 0)]), 6, 64) := by kernel_rfl
-- the values' own types
/-! #### struct type 23 -/
structure S23 where
 f0 : Int
 f1 : Int
 f2 : Int
def z23 : S23 := ⟨(0 : Int), (0 : Int), (0 : Int)⟩
def k23 : Kd S23 := Kd.iso (Kd.pair (Kd.int .i64) (Kd.pair (Kd.int .i64) (Kd.int .i64))) (fun x : S23 => (x.f0, x.f1, x.f2))
theorem k23_open {w : World} {x : S23} {cs : List Value} (h : k23.K w x cs) : cs = [I L x.f0, I L x.f1, I L x.f2] := by
 obtain ⟨_, _, rfl, rfl, ⟨_, _, rfl, rfl, rfl⟩⟩ := h
 exact rfl
theorem k23_openM {w : World} {base : Nat} {ok : Nat → Prop} {x : S23} {cs : List Value} (h : k23.M w base ok x cs) : cs = [I L x.f0, I L x.f1, I L x.f2] := by
 obtain ⟨_, _, rfl, rfl, ⟨_, _, rfl, rfl, rfl⟩⟩ := h
 exact rfl
theorem k23_mk (w : World) (x : S23)  : k23.K w x [I L x.f0, I L x.f1, I L x.f2] := ⟨[I L x.f0], [I L x.f1, I L x.f2], rfl, rfl, ⟨[I L x.f1], [I L x.f2], rfl, rfl, rfl⟩⟩
theorem k23_mkM (w : World) (base : Nat) (ok : Nat → Prop) (x : S23)  : k23.M w base ok x [I L x.f0, I L x.f1, I L x.f2] := ⟨[I L x.f0], [I L x.f1, I L x.f2], rfl, rfl, ⟨[I L x.f1], [I L x.f2], rfl, rfl, rfl⟩⟩
theorem k23_mkF (W : World) (ok : Nat → Prop) (x : S23) : Kd.FK k23 W ok x [I L x.f0, I L x.f1, I L x.f2] := fun W2 _ => k23_mk W2 x
def rd_T23 (xs : List S23) (i : Int) : S23 := xs.getD i.toNat z23
theorem at_T23 {w : World} {A : Option Addr} {n : Nat} {xs : List S23} (h : Kd.C k23 w A n xs) (i : Int) (h0 : 0 ≤ i) (h1 : i < n) : ∃ ad , A = some ad ∧ w.cell? (ad.add (i.toNat * 3)) = some (I L (rd_T23 xs i).f0) ∧ w.cell? ⟨(ad.add (i.toNat * 3)).block, (ad.add (i.toNat * 3)).off + 1, none⟩ = some (I L (rd_T23 xs i).f1) ∧ w.cell? ⟨(ad.add (i.toNat * 3)).block, (ad.add (i.toNat * 3)).off + 2, none⟩ = some (I L (rd_T23 xs i).f2) := by
 obtain ⟨ad, c, e, _, hK, hc0⟩ := Kd.C_get h z23 i h0 h1
 have hc : ∀ j u, c[j]? = some u → w.cell? (ad.add (i.toNat * 3 + j)) = some u := hc0
 obtain rfl := k23_open hK
 exact ⟨ad, e, hc 0 _ rfl, by rw [← add_field _ _ 1 (by omega)]; exact hc 1 _ rfl, by rw [← add_field _ _ 2 (by omega)]; exact hc 2 _ rfl⟩

/-! #### struct type 89 -/
structure S89 where
 f0 : Int
 f1 : Int
 f2 : Bool
 f3 : S23
def z89 : S89 := ⟨(0 : Int), (0 : Int), false, z23⟩
def k89 : Kd S89 := Kd.iso (Kd.pair (Kd.int .i64) (Kd.pair (Kd.int .i64) (Kd.pair Kd.bool k23))) (fun x : S89 => (x.f0, x.f1, x.f2, x.f3))
theorem k89_open {w : World} {x : S89} {cs : List Value} (h : k89.K w x cs) : cs = [I L x.f0, I L x.f1, .bool x.f2, I L x.f3.f0, I L x.f3.f1, I L x.f3.f2] := by
 obtain ⟨_, _, rfl, rfl, ⟨_, _, rfl, rfl, ⟨_, _, rfl, rfl, s3⟩⟩⟩ := h
 obtain rfl := k23_open s3
 exact rfl
theorem k89_openM {w : World} {base : Nat} {ok : Nat → Prop} {x : S89} {cs : List Value} (h : k89.M w base ok x cs) : cs = [I L x.f0, I L x.f1, .bool x.f2, I L x.f3.f0, I L x.f3.f1, I L x.f3.f2] := by
 obtain ⟨_, _, rfl, rfl, ⟨_, _, rfl, rfl, ⟨_, _, rfl, rfl, s3⟩⟩⟩ := h
 obtain rfl := k23_openM s3
 exact rfl
theorem k89_mk (w : World) (x : S89)  : k89.K w x [I L x.f0, I L x.f1, .bool x.f2, I L x.f3.f0, I L x.f3.f1, I L x.f3.f2] := ⟨[I L x.f0], [I L x.f1, .bool x.f2, I L x.f3.f0, I L x.f3.f1, I L x.f3.f2], rfl, rfl, ⟨[I L x.f1], [.bool x.f2, I L x.f3.f0, I L x.f3.f1, I L x.f3.f2], rfl, rfl, ⟨[.bool x.f2], [I L x.f3.f0, I L x.f3.f1, I L x.f3.f2], rfl, rfl, (k23_mk w x.f3 )⟩⟩⟩
theorem k89_mkM (w : World) (base : Nat) (ok : Nat → Prop) (x : S89)  : k89.M w base ok x [I L x.f0, I L x.f1, .bool x.f2, I L x.f3.f0, I L x.f3.f1, I L x.f3.f2] := ⟨[I L x.f0], [I L x.f1, .bool x.f2, I L x.f3.f0, I L x.f3.f1, I L x.f3.f2], rfl, rfl, ⟨[I L x.f1], [.bool x.f2, I L x.f3.f0, I L x.f3.f1, I L x.f3.f2], rfl, rfl, ⟨[.bool x.f2], [I L x.f3.f0, I L x.f3.f1, I L x.f3.f2], rfl, rfl, (k23_mkM w base ok x.f3 )⟩⟩⟩
theorem k89_mkF (W : World) (ok : Nat → Prop) (x : S89) : Kd.FK k89 W ok x [I L x.f0, I L x.f1, .bool x.f2, I L x.f3.f0, I L x.f3.f1, I L x.f3.f2] := fun W2 _ => k89_mk W2 x
def rd_T89 (xs : List S89) (i : Int) : S89 := xs.getD i.toNat z89
theorem at_T89 {w : World} {A : Option Addr} {n : Nat} {xs : List S89} (h : Kd.C k89 w A n xs) (i : Int) (h0 : 0 ≤ i) (h1 : i < n) : ∃ ad , A = some ad ∧ w.cell? (ad.add (i.toNat * 6)) = some (I L (rd_T89 xs i).f0) ∧ w.cell? ⟨(ad.add (i.toNat * 6)).block, (ad.add (i.toNat * 6)).off + 1, none⟩ = some (I L (rd_T89 xs i).f1) ∧ w.cell? ⟨(ad.add (i.toNat * 6)).block, (ad.add (i.toNat * 6)).off + 2, none⟩ = some (.bool (rd_T89 xs i).f2) ∧ w.cell? ⟨(ad.add (i.toNat * 6)).block, (ad.add (i.toNat * 6)).off + 3, none⟩ = some (I L (rd_T89 xs i).f3.f0) ∧ w.cell? ⟨(ad.add (i.toNat * 6)).block, (ad.add (i.toNat * 6)).off + 4, none⟩ = some (I L (rd_T89 xs i).f3.f1) ∧ w.cell? ⟨(ad.add (i.toNat * 6)).block, (ad.add (i.toNat * 6)).off + 5, none⟩ = some (I L (rd_T89 xs i).f3.f2) := by
 obtain ⟨ad, c, e, _, hK, hc0⟩ := Kd.C_get h z89 i h0 h1
 have hc : ∀ j u, c[j]? = some u → w.cell? (ad.add (i.toNat * 6 + j)) = some u := hc0
 obtain rfl := k89_open hK
 exact ⟨ad,e,hc 0 _ rfl,by rw [← add_field _ _ 1 (by omega)];exact hc 1 _ rfl,by rw [← add_field _ _ 2 (by omega)];exact hc 2 _ rfl,by rw [← add_field _ _ 3 (by omega)];exact hc 3 _ rfl,by rw [← add_field _ _ 4 (by omega)];exact hc 4 _ rfl,by rw [← add_field _ _ 5 (by omega)];exact hc 5 _ rfl⟩

def rd_L4 (xs : List (List S89)) (i : Int) : (List S89) := xs.getD i.toNat ([] : List S89)
theorem at_L4 {w : World} {A : Option Addr} {n : Nat} {xs : List (List S89)} (h : Kd.C (Kd.slice 89 k89) w A n xs) (i : Int) (h0 : 0 ≤ i) (h1 : i < n) : ∃ ad A0 c0, A = some ad ∧ w.cell? (ad.add i.toNat) = some (Y A0 (rd_L4 xs i).length c0) ∧ (rd_L4 xs i).length ≤ c0 ∧ k89.C w A0 (rd_L4 xs i).length (rd_L4 xs i) := by
 obtain ⟨ad, c, e, _, hK, hc0⟩ := Kd.C_get h ([] : List S89) i h0 h1
 have hc : ∀ j u, c[j]? = some u → w.cell? (ad.add (i.toNat * 1 + j)) = some u := hc0
 obtain ⟨A0, c0, rfl, l0, g0⟩ := hK
 exact ⟨ad, A0, c0, e, by have hq := hc 0 _ rfl; rwa [Nat.mul_one, Nat.add_zero] at hq, l0, g0⟩

/-! #### struct type 26 -/
structure S26 where
 f0 : Int
 f1 : S23
 f2 : (List S89)
def z26 : S26 := ⟨(0 : Int), z23, ([] : List S89)⟩
def k26 : Kd S26 := Kd.iso (Kd.pair (Kd.int .i64) (Kd.pair k23 (Kd.slice 89 k89))) (fun x : S26 => (x.f0, x.f1, x.f2))
theorem k26_open {w : World} {x : S26} {cs : List Value} (h : k26.K w x cs) : ∃ A4 c4, cs = [I L x.f0, I L x.f1.f0, I L x.f1.f1, I L x.f1.f2, Y A4 x.f2.length c4] ∧ x.f2.length ≤ c4 ∧ k89.C w A4 x.f2.length x.f2 := by
 obtain ⟨_, _, rfl, rfl, ⟨_, _, rfl, s1, ⟨A4, c4, rfl, l4, g4⟩⟩⟩ := h
 obtain rfl := k23_open s1
 exact ⟨A4, c4, rfl, l4, g4⟩
theorem k26_openM {w : World} {base : Nat} {ok : Nat → Prop} {x : S26} {cs : List Value} (h : k26.M w base ok x cs) : ∃ v4, cs = [I L x.f0, I L x.f1.f0, I L x.f1.f1, I L x.f1.f2, v4] ∧ k89.R 89 w base ok v4 x.f2 := by
 obtain ⟨_, _, rfl, rfl, ⟨_, _, rfl, s1, ⟨v4, rfl, g4⟩⟩⟩ := h
 obtain rfl := k23_openM s1
 exact ⟨v4, rfl, g4⟩
theorem k26_mk (w : World) (x : S26) {A4 : Option Addr} {c4 : Nat} (l4 : x.f2.length ≤ c4) (g4 : k89.C w A4 x.f2.length x.f2) : k26.K w x [I L x.f0, I L x.f1.f0, I L x.f1.f1, I L x.f1.f2, Y A4 x.f2.length c4] := ⟨[I L x.f0], [I L x.f1.f0, I L x.f1.f1, I L x.f1.f2, Y A4 x.f2.length c4], rfl, rfl, ⟨[I L x.f1.f0, I L x.f1.f1, I L x.f1.f2], [Y A4 x.f2.length c4], rfl, (k23_mk w x.f1 ), ⟨A4, c4, rfl, l4, g4⟩⟩⟩
theorem k26_mkM (w : World) (base : Nat) (ok : Nat → Prop) (x : S26) {v4 : Value} (g4 : k89.R 89 w base ok v4 x.f2) : k26.M w base ok x [I L x.f0, I L x.f1.f0, I L x.f1.f1, I L x.f1.f2, v4] := ⟨[I L x.f0], [I L x.f1.f0, I L x.f1.f1, I L x.f1.f2, v4], rfl, rfl, ⟨[I L x.f1.f0, I L x.f1.f1, I L x.f1.f2], [v4], rfl, (k23_mkM w base ok x.f1 ), ⟨v4, rfl, g4⟩⟩⟩
theorem k26_openF {W : World} {ok : Nat → Prop} {x : S26} {cs : List Value} (h : Kd.FK k26 W ok x cs) : ∃ A4 c4, cs = [I L x.f0, I L x.f1.f0, I L x.f1.f1, I L x.f1.f2, Y A4 x.f2.length c4] ∧ x.f2.length ≤ c4 ∧ Kd.F k89 W ok A4 x.f2.length x.f2 := by
 obtain ⟨A4, c4, rfl, l4, _⟩ := k26_open (Kd.FK_now h)
 exact ⟨A4,c4,rfl,l4,(fun W' hW=>by obtain ⟨A4_,c4_,he,l4_,g4_⟩:=k26_open (h W' hW);injection (Option.some.inj (show some (Value.slice A4 x.f2.length c4)=some (Value.slice A4_ x.f2.length c4_) from congrArg (fun l=>l[4]?) he)) with ha_ _ _;rw [ha_];exact g4_)⟩
theorem k26_mkF (W : World) (ok : Nat → Prop) (x : S26) {A4 : Option Addr} {c4 : Nat} (l4 : x.f2.length ≤ c4) (g4 : Kd.F k89 W ok A4 x.f2.length x.f2) : Kd.FK k26 W ok x [I L x.f0, I L x.f1.f0, I L x.f1.f1, I L x.f1.f2, Y A4 x.f2.length c4] := fun W2 hW => k26_mk W2 x l4 (g4 W2 hW)
def rd_T26 (xs : List S26) (i : Int) : S26 := xs.getD i.toNat z26
theorem at_T26 {w : World} {A : Option Addr} {n : Nat} {xs : List S26} (h : Kd.C k26 w A n xs) (i : Int) (h0 : 0 ≤ i) (h1 : i < n) : ∃ ad A4 c4, A = some ad ∧ w.cell? (ad.add (i.toNat * 5)) = some (I L (rd_T26 xs i).f0) ∧ w.cell? ⟨(ad.add (i.toNat * 5)).block, (ad.add (i.toNat * 5)).off + 1, none⟩ = some (I L (rd_T26 xs i).f1.f0) ∧ w.cell? ⟨(ad.add (i.toNat * 5)).block, (ad.add (i.toNat * 5)).off + 2, none⟩ = some (I L (rd_T26 xs i).f1.f1) ∧ w.cell? ⟨(ad.add (i.toNat * 5)).block, (ad.add (i.toNat * 5)).off + 3, none⟩ = some (I L (rd_T26 xs i).f1.f2) ∧ w.cell? ⟨(ad.add (i.toNat * 5)).block, (ad.add (i.toNat * 5)).off + 4, none⟩ = some (Y A4 (rd_T26 xs i).f2.length c4) ∧ (rd_T26 xs i).f2.length ≤ c4 ∧ k89.C w A4 (rd_T26 xs i).f2.length (rd_T26 xs i).f2 := by
 obtain ⟨ad, c, e, _, hK, hc0⟩ := Kd.C_get h z26 i h0 h1
 have hc : ∀ j u, c[j]? = some u → w.cell? (ad.add (i.toNat * 5 + j)) = some u := hc0
 obtain ⟨A4, c4, rfl, l4, g4⟩ := k26_open hK
 exact ⟨ad,A4,c4,e,hc 0 _ rfl,by rw [← add_field _ _ 1 (by omega)];exact hc 1 _ rfl,by rw [← add_field _ _ 2 (by omega)];exact hc 2 _ rfl,by rw [← add_field _ _ 3 (by omega)];exact hc 3 _ rfl,by rw [← add_field _ _ 4 (by omega)];exact hc 4 _ rfl,l4,g4⟩

/-! #### struct type 67 -/
structure S67 where
 f0 : Int
 f1 : S26
def z67 : S67 := ⟨(0 : Int), z26⟩
def k67 : Kd S67 := Kd.iso (Kd.pair (Kd.int .i64) k26) (fun x : S67 => (x.f0, x.f1))
theorem k67_open {w : World} {x : S67} {cs : List Value} (h : k67.K w x cs) : ∃ A5 c5, cs = [I L x.f0, I L x.f1.f0, I L x.f1.f1.f0, I L x.f1.f1.f1, I L x.f1.f1.f2, Y A5 x.f1.f2.length c5] ∧ x.f1.f2.length ≤ c5 ∧ k89.C w A5 x.f1.f2.length x.f1.f2 := by
 obtain ⟨_, _, rfl, rfl, s1⟩ := h
 obtain ⟨A5, c5, rfl, l5, g5⟩ := k26_open s1
 exact ⟨A5, c5, rfl, l5, g5⟩
theorem k67_openM {w : World} {base : Nat} {ok : Nat → Prop} {x : S67} {cs : List Value} (h : k67.M w base ok x cs) : ∃ v5, cs = [I L x.f0, I L x.f1.f0, I L x.f1.f1.f0, I L x.f1.f1.f1, I L x.f1.f1.f2, v5] ∧ k89.R 89 w base ok v5 x.f1.f2 := by
 obtain ⟨_, _, rfl, rfl, s1⟩ := h
 obtain ⟨v5, rfl, g5⟩ := k26_openM s1
 exact ⟨v5, rfl, g5⟩
theorem k67_mk (w : World) (x : S67) {A5 : Option Addr} {c5 : Nat} (l5 : x.f1.f2.length ≤ c5) (g5 : k89.C w A5 x.f1.f2.length x.f1.f2) : k67.K w x [I L x.f0, I L x.f1.f0, I L x.f1.f1.f0, I L x.f1.f1.f1, I L x.f1.f1.f2, Y A5 x.f1.f2.length c5] := ⟨[I L x.f0], [I L x.f1.f0, I L x.f1.f1.f0, I L x.f1.f1.f1, I L x.f1.f1.f2, Y A5 x.f1.f2.length c5], rfl, rfl, (k26_mk w x.f1 l5 g5)⟩
theorem k67_mkM (w : World) (base : Nat) (ok : Nat → Prop) (x : S67) {v5 : Value} (g5 : k89.R 89 w base ok v5 x.f1.f2) : k67.M w base ok x [I L x.f0, I L x.f1.f0, I L x.f1.f1.f0, I L x.f1.f1.f1, I L x.f1.f1.f2, v5] := ⟨[I L x.f0], [I L x.f1.f0, I L x.f1.f1.f0, I L x.f1.f1.f1, I L x.f1.f1.f2, v5], rfl, rfl, (k26_mkM w base ok x.f1 g5)⟩
theorem k67_openF {W : World} {ok : Nat → Prop} {x : S67} {cs : List Value} (h : Kd.FK k67 W ok x cs) : ∃ A5 c5, cs = [I L x.f0, I L x.f1.f0, I L x.f1.f1.f0, I L x.f1.f1.f1, I L x.f1.f1.f2, Y A5 x.f1.f2.length c5] ∧ x.f1.f2.length ≤ c5 ∧ Kd.F k89 W ok A5 x.f1.f2.length x.f1.f2 := by
 obtain ⟨A5, c5, rfl, l5, _⟩ := k67_open (Kd.FK_now h)
 exact ⟨A5,c5,rfl,l5,(fun W' hW=>by obtain ⟨A5_,c5_,he,l5_,g5_⟩:=k67_open (h W' hW);injection (Option.some.inj (show some (Value.slice A5 x.f1.f2.length c5)=some (Value.slice A5_ x.f1.f2.length c5_) from congrArg (fun l=>l[5]?) he)) with ha_ _ _;rw [ha_];exact g5_)⟩
theorem k67_mkF (W : World) (ok : Nat → Prop) (x : S67) {A5 : Option Addr} {c5 : Nat} (l5 : x.f1.f2.length ≤ c5) (g5 : Kd.F k89 W ok A5 x.f1.f2.length x.f1.f2) : Kd.FK k67 W ok x [I L x.f0, I L x.f1.f0, I L x.f1.f1.f0, I L x.f1.f1.f1, I L x.f1.f1.f2, Y A5 x.f1.f2.length c5] := fun W2 hW => k67_mk W2 x l5 (g5 W2 hW)
def rd_T67 (xs : List S67) (i : Int) : S67 := xs.getD i.toNat z67
theorem at_T67 {w : World} {A : Option Addr} {n : Nat} {xs : List S67} (h : Kd.C k67 w A n xs) (i : Int) (h0 : 0 ≤ i) (h1 : i < n) : ∃ ad A5 c5, A = some ad ∧ w.cell? (ad.add (i.toNat * 6)) = some (I L (rd_T67 xs i).f0) ∧ w.cell? ⟨(ad.add (i.toNat * 6)).block, (ad.add (i.toNat * 6)).off + 1, none⟩ = some (I L (rd_T67 xs i).f1.f0) ∧ w.cell? ⟨(ad.add (i.toNat * 6)).block, (ad.add (i.toNat * 6)).off + 2, none⟩ = some (I L (rd_T67 xs i).f1.f1.f0) ∧ w.cell? ⟨(ad.add (i.toNat * 6)).block, (ad.add (i.toNat * 6)).off + 3, none⟩ = some (I L (rd_T67 xs i).f1.f1.f1) ∧ w.cell? ⟨(ad.add (i.toNat * 6)).block, (ad.add (i.toNat * 6)).off + 4, none⟩ = some (I L (rd_T67 xs i).f1.f1.f2) ∧ w.cell? ⟨(ad.add (i.toNat * 6)).block, (ad.add (i.toNat * 6)).off + 5, none⟩ = some (Y A5 (rd_T67 xs i).f1.f2.length c5) ∧ (rd_T67 xs i).f1.f2.length ≤ c5 ∧ k89.C w A5 (rd_T67 xs i).f1.f2.length (rd_T67 xs i).f1.f2 := by
 obtain ⟨ad, c, e, _, hK, hc0⟩ := Kd.C_get h z67 i h0 h1
 have hc : ∀ j u, c[j]? = some u → w.cell? (ad.add (i.toNat * 6 + j)) = some u := hc0
 obtain ⟨A5, c5, rfl, l5, g5⟩ := k67_open hK
 exact ⟨ad,A5,c5,e,hc 0 _ rfl,by rw [← add_field _ _ 1 (by omega)];exact hc 1 _ rfl,by rw [← add_field _ _ 2 (by omega)];exact hc 2 _ rfl,by rw [← add_field _ _ 3 (by omega)];exact hc 3 _ rfl,by rw [← add_field _ _ 4 (by omega)];exact hc 4 _ rfl,by rw [← add_field _ _ 5 (by omega)];exact hc 5 _ rfl,l5,g5⟩

/-! #### struct type 31 -/
structure S31 where
 f0 : Int
 f1 : Int
 f2 : Int
def z31 : S31 := ⟨(0 : Int), (0 : Int), (0 : Int)⟩
def k31 : Kd S31 := Kd.iso (Kd.pair (Kd.int .i64) (Kd.pair (Kd.int .i64) (Kd.int .i64))) (fun x : S31 => (x.f0, x.f1, x.f2))
theorem k31_open {w : World} {x : S31} {cs : List Value} (h : k31.K w x cs) : cs = [I L x.f0, I L x.f1, I L x.f2] := by
 obtain ⟨_, _, rfl, rfl, ⟨_, _, rfl, rfl, rfl⟩⟩ := h
 exact rfl
theorem k31_openM {w : World} {base : Nat} {ok : Nat → Prop} {x : S31} {cs : List Value} (h : k31.M w base ok x cs) : cs = [I L x.f0, I L x.f1, I L x.f2] := by
 obtain ⟨_, _, rfl, rfl, ⟨_, _, rfl, rfl, rfl⟩⟩ := h
 exact rfl
theorem k31_mk (w : World) (x : S31)  : k31.K w x [I L x.f0, I L x.f1, I L x.f2] := ⟨[I L x.f0], [I L x.f1, I L x.f2], rfl, rfl, ⟨[I L x.f1], [I L x.f2], rfl, rfl, rfl⟩⟩
theorem k31_mkM (w : World) (base : Nat) (ok : Nat → Prop) (x : S31)  : k31.M w base ok x [I L x.f0, I L x.f1, I L x.f2] := ⟨[I L x.f0], [I L x.f1, I L x.f2], rfl, rfl, ⟨[I L x.f1], [I L x.f2], rfl, rfl, rfl⟩⟩
theorem k31_mkF (W : World) (ok : Nat → Prop) (x : S31) : Kd.FK k31 W ok x [I L x.f0, I L x.f1, I L x.f2] := fun W2 _ => k31_mk W2 x
def rd_T31 (xs : List S31) (i : Int) : S31 := xs.getD i.toNat z31
theorem at_T31 {w : World} {A : Option Addr} {n : Nat} {xs : List S31} (h : Kd.C k31 w A n xs) (i : Int) (h0 : 0 ≤ i) (h1 : i < n) : ∃ ad , A = some ad ∧ w.cell? (ad.add (i.toNat * 3)) = some (I L (rd_T31 xs i).f0) ∧ w.cell? ⟨(ad.add (i.toNat * 3)).block, (ad.add (i.toNat * 3)).off + 1, none⟩ = some (I L (rd_T31 xs i).f1) ∧ w.cell? ⟨(ad.add (i.toNat * 3)).block, (ad.add (i.toNat * 3)).off + 2, none⟩ = some (I L (rd_T31 xs i).f2) := by
 obtain ⟨ad, c, e, _, hK, hc0⟩ := Kd.C_get h z31 i h0 h1
 have hc : ∀ j u, c[j]? = some u → w.cell? (ad.add (i.toNat * 3 + j)) = some u := hc0
 obtain rfl := k31_open hK
 exact ⟨ad, e, hc 0 _ rfl, by rw [← add_field _ _ 1 (by omega)]; exact hc 1 _ rfl, by rw [← add_field _ _ 2 (by omega)]; exact hc 2 _ rfl⟩

/-! #### struct type 51 -/
structure S51 where
 f0 : Int
 f1 : Int
 f2 : Bool
 f3 : S31
def z51 : S51 := ⟨(0 : Int), (0 : Int), false, z31⟩
def k51 : Kd S51 := Kd.iso (Kd.pair (Kd.int .i64) (Kd.pair (Kd.int .i64) (Kd.pair Kd.bool k31))) (fun x : S51 => (x.f0, x.f1, x.f2, x.f3))
theorem k51_open {w : World} {x : S51} {cs : List Value} (h : k51.K w x cs) : cs = [I L x.f0, I L x.f1, .bool x.f2, I L x.f3.f0, I L x.f3.f1, I L x.f3.f2] := by
 obtain ⟨_, _, rfl, rfl, ⟨_, _, rfl, rfl, ⟨_, _, rfl, rfl, s3⟩⟩⟩ := h
 obtain rfl := k31_open s3
 exact rfl
theorem k51_openM {w : World} {base : Nat} {ok : Nat → Prop} {x : S51} {cs : List Value} (h : k51.M w base ok x cs) : cs = [I L x.f0, I L x.f1, .bool x.f2, I L x.f3.f0, I L x.f3.f1, I L x.f3.f2] := by
 obtain ⟨_, _, rfl, rfl, ⟨_, _, rfl, rfl, ⟨_, _, rfl, rfl, s3⟩⟩⟩ := h
 obtain rfl := k31_openM s3
 exact rfl
theorem k51_mk (w : World) (x : S51)  : k51.K w x [I L x.f0, I L x.f1, .bool x.f2, I L x.f3.f0, I L x.f3.f1, I L x.f3.f2] := ⟨[I L x.f0], [I L x.f1, .bool x.f2, I L x.f3.f0, I L x.f3.f1, I L x.f3.f2], rfl, rfl, ⟨[I L x.f1], [.bool x.f2, I L x.f3.f0, I L x.f3.f1, I L x.f3.f2], rfl, rfl, ⟨[.bool x.f2], [I L x.f3.f0, I L x.f3.f1, I L x.f3.f2], rfl, rfl, (k31_mk w x.f3 )⟩⟩⟩
theorem k51_mkM (w : World) (base : Nat) (ok : Nat → Prop) (x : S51)  : k51.M w base ok x [I L x.f0, I L x.f1, .bool x.f2, I L x.f3.f0, I L x.f3.f1, I L x.f3.f2] := ⟨[I L x.f0], [I L x.f1, .bool x.f2, I L x.f3.f0, I L x.f3.f1, I L x.f3.f2], rfl, rfl, ⟨[I L x.f1], [.bool x.f2, I L x.f3.f0, I L x.f3.f1, I L x.f3.f2], rfl, rfl, ⟨[.bool x.f2], [I L x.f3.f0, I L x.f3.f1, I L x.f3.f2], rfl, rfl, (k31_mkM w base ok x.f3 )⟩⟩⟩
theorem k51_mkF (W : World) (ok : Nat → Prop) (x : S51) : Kd.FK k51 W ok x [I L x.f0, I L x.f1, .bool x.f2, I L x.f3.f0, I L x.f3.f1, I L x.f3.f2] := fun W2 _ => k51_mk W2 x
def rd_T51 (xs : List S51) (i : Int) : S51 := xs.getD i.toNat z51
theorem at_T51 {w : World} {A : Option Addr} {n : Nat} {xs : List S51} (h : Kd.C k51 w A n xs) (i : Int) (h0 : 0 ≤ i) (h1 : i < n) : ∃ ad , A = some ad ∧ w.cell? (ad.add (i.toNat * 6)) = some (I L (rd_T51 xs i).f0) ∧ w.cell? ⟨(ad.add (i.toNat * 6)).block, (ad.add (i.toNat * 6)).off + 1, none⟩ = some (I L (rd_T51 xs i).f1) ∧ w.cell? ⟨(ad.add (i.toNat * 6)).block, (ad.add (i.toNat * 6)).off + 2, none⟩ = some (.bool (rd_T51 xs i).f2) ∧ w.cell? ⟨(ad.add (i.toNat * 6)).block, (ad.add (i.toNat * 6)).off + 3, none⟩ = some (I L (rd_T51 xs i).f3.f0) ∧ w.cell? ⟨(ad.add (i.toNat * 6)).block, (ad.add (i.toNat * 6)).off + 4, none⟩ = some (I L (rd_T51 xs i).f3.f1) ∧ w.cell? ⟨(ad.add (i.toNat * 6)).block, (ad.add (i.toNat * 6)).off + 5, none⟩ = some (I L (rd_T51 xs i).f3.f2) := by
 obtain ⟨ad, c, e, _, hK, hc0⟩ := Kd.C_get h z51 i h0 h1
 have hc : ∀ j u, c[j]? = some u → w.cell? (ad.add (i.toNat * 6 + j)) = some u := hc0
 obtain rfl := k51_open hK
 exact ⟨ad,e,hc 0 _ rfl,by rw [← add_field _ _ 1 (by omega)];exact hc 1 _ rfl,by rw [← add_field _ _ 2 (by omega)];exact hc 2 _ rfl,by rw [← add_field _ _ 3 (by omega)];exact hc 3 _ rfl,by rw [← add_field _ _ 4 (by omega)];exact hc 4 _ rfl,by rw [← add_field _ _ 5 (by omega)];exact hc 5 _ rfl⟩

def rd_L9 (xs : List (List S51)) (i : Int) : (List S51) := xs.getD i.toNat ([] : List S51)
theorem at_L9 {w : World} {A : Option Addr} {n : Nat} {xs : List (List S51)} (h : Kd.C (Kd.slice 51 k51) w A n xs) (i : Int) (h0 : 0 ≤ i) (h1 : i < n) : ∃ ad A0 c0, A = some ad ∧ w.cell? (ad.add i.toNat) = some (Y A0 (rd_L9 xs i).length c0) ∧ (rd_L9 xs i).length ≤ c0 ∧ k51.C w A0 (rd_L9 xs i).length (rd_L9 xs i) := by
 obtain ⟨ad, c, e, _, hK, hc0⟩ := Kd.C_get h ([] : List S51) i h0 h1
 have hc : ∀ j u, c[j]? = some u → w.cell? (ad.add (i.toNat * 1 + j)) = some u := hc0
 obtain ⟨A0, c0, rfl, l0, g0⟩ := hK
 exact ⟨ad, A0, c0, e, by have hq := hc 0 _ rfl; rwa [Nat.mul_one, Nat.add_zero] at hq, l0, g0⟩

/-! #### struct type 34 -/
structure S34 where
 f0 : Int
 f1 : S31
 f2 : (List S51)
def z34 : S34 := ⟨(0 : Int), z31, ([] : List S51)⟩
def k34 : Kd S34 := Kd.iso (Kd.pair (Kd.int .i64) (Kd.pair k31 (Kd.slice 51 k51))) (fun x : S34 => (x.f0, x.f1, x.f2))
theorem k34_open {w : World} {x : S34} {cs : List Value} (h : k34.K w x cs) : ∃ A4 c4, cs = [I L x.f0, I L x.f1.f0, I L x.f1.f1, I L x.f1.f2, Y A4 x.f2.length c4] ∧ x.f2.length ≤ c4 ∧ k51.C w A4 x.f2.length x.f2 := by
 obtain ⟨_, _, rfl, rfl, ⟨_, _, rfl, s1, ⟨A4, c4, rfl, l4, g4⟩⟩⟩ := h
 obtain rfl := k31_open s1
 exact ⟨A4, c4, rfl, l4, g4⟩
theorem k34_openM {w : World} {base : Nat} {ok : Nat → Prop} {x : S34} {cs : List Value} (h : k34.M w base ok x cs) : ∃ v4, cs = [I L x.f0, I L x.f1.f0, I L x.f1.f1, I L x.f1.f2, v4] ∧ k51.R 51 w base ok v4 x.f2 := by
 obtain ⟨_, _, rfl, rfl, ⟨_, _, rfl, s1, ⟨v4, rfl, g4⟩⟩⟩ := h
 obtain rfl := k31_openM s1
 exact ⟨v4, rfl, g4⟩
theorem k34_mk (w : World) (x : S34) {A4 : Option Addr} {c4 : Nat} (l4 : x.f2.length ≤ c4) (g4 : k51.C w A4 x.f2.length x.f2) : k34.K w x [I L x.f0, I L x.f1.f0, I L x.f1.f1, I L x.f1.f2, Y A4 x.f2.length c4] := ⟨[I L x.f0], [I L x.f1.f0, I L x.f1.f1, I L x.f1.f2, Y A4 x.f2.length c4], rfl, rfl, ⟨[I L x.f1.f0, I L x.f1.f1, I L x.f1.f2], [Y A4 x.f2.length c4], rfl, (k31_mk w x.f1 ), ⟨A4, c4, rfl, l4, g4⟩⟩⟩
theorem k34_mkM (w : World) (base : Nat) (ok : Nat → Prop) (x : S34) {v4 : Value} (g4 : k51.R 51 w base ok v4 x.f2) : k34.M w base ok x [I L x.f0, I L x.f1.f0, I L x.f1.f1, I L x.f1.f2, v4] := ⟨[I L x.f0], [I L x.f1.f0, I L x.f1.f1, I L x.f1.f2, v4], rfl, rfl, ⟨[I L x.f1.f0, I L x.f1.f1, I L x.f1.f2], [v4], rfl, (k31_mkM w base ok x.f1 ), ⟨v4, rfl, g4⟩⟩⟩
theorem k34_openF {W : World} {ok : Nat → Prop} {x : S34} {cs : List Value} (h : Kd.FK k34 W ok x cs) : ∃ A4 c4, cs = [I L x.f0, I L x.f1.f0, I L x.f1.f1, I L x.f1.f2, Y A4 x.f2.length c4] ∧ x.f2.length ≤ c4 ∧ Kd.F k51 W ok A4 x.f2.length x.f2 := by
 obtain ⟨A4, c4, rfl, l4, _⟩ := k34_open (Kd.FK_now h)
 exact ⟨A4,c4,rfl,l4,(fun W' hW=>by obtain ⟨A4_,c4_,he,l4_,g4_⟩:=k34_open (h W' hW);injection (Option.some.inj (show some (Value.slice A4 x.f2.length c4)=some (Value.slice A4_ x.f2.length c4_) from congrArg (fun l=>l[4]?) he)) with ha_ _ _;rw [ha_];exact g4_)⟩
theorem k34_mkF (W : World) (ok : Nat → Prop) (x : S34) {A4 : Option Addr} {c4 : Nat} (l4 : x.f2.length ≤ c4) (g4 : Kd.F k51 W ok A4 x.f2.length x.f2) : Kd.FK k34 W ok x [I L x.f0, I L x.f1.f0, I L x.f1.f1, I L x.f1.f2, Y A4 x.f2.length c4] := fun W2 hW => k34_mk W2 x l4 (g4 W2 hW)
def rd_T34 (xs : List S34) (i : Int) : S34 := xs.getD i.toNat z34
theorem at_T34 {w : World} {A : Option Addr} {n : Nat} {xs : List S34} (h : Kd.C k34 w A n xs) (i : Int) (h0 : 0 ≤ i) (h1 : i < n) : ∃ ad A4 c4, A = some ad ∧ w.cell? (ad.add (i.toNat * 5)) = some (I L (rd_T34 xs i).f0) ∧ w.cell? ⟨(ad.add (i.toNat * 5)).block, (ad.add (i.toNat * 5)).off + 1, none⟩ = some (I L (rd_T34 xs i).f1.f0) ∧ w.cell? ⟨(ad.add (i.toNat * 5)).block, (ad.add (i.toNat * 5)).off + 2, none⟩ = some (I L (rd_T34 xs i).f1.f1) ∧ w.cell? ⟨(ad.add (i.toNat * 5)).block, (ad.add (i.toNat * 5)).off + 3, none⟩ = some (I L (rd_T34 xs i).f1.f2) ∧ w.cell? ⟨(ad.add (i.toNat * 5)).block, (ad.add (i.toNat * 5)).off + 4, none⟩ = some (Y A4 (rd_T34 xs i).f2.length c4) ∧ (rd_T34 xs i).f2.length ≤ c4 ∧ k51.C w A4 (rd_T34 xs i).f2.length (rd_T34 xs i).f2 := by
 obtain ⟨ad, c, e, _, hK, hc0⟩ := Kd.C_get h z34 i h0 h1
 have hc : ∀ j u, c[j]? = some u → w.cell? (ad.add (i.toNat * 5 + j)) = some u := hc0
 obtain ⟨A4, c4, rfl, l4, g4⟩ := k34_open hK
 exact ⟨ad,A4,c4,e,hc 0 _ rfl,by rw [← add_field _ _ 1 (by omega)];exact hc 1 _ rfl,by rw [← add_field _ _ 2 (by omega)];exact hc 2 _ rfl,by rw [← add_field _ _ 3 (by omega)];exact hc 3 _ rfl,by rw [← add_field _ _ 4 (by omega)];exact hc 4 _ rfl,l4,g4⟩

/-! #### struct type 54 -/
structure S54 where
 f0 : Int
 f1 : S34
def z54 : S54 := ⟨(0 : Int), z34⟩
def k54 : Kd S54 := Kd.iso (Kd.pair (Kd.int .i64) k34) (fun x : S54 => (x.f0, x.f1))
theorem k54_open {w : World} {x : S54} {cs : List Value} (h : k54.K w x cs) : ∃ A5 c5, cs = [I L x.f0, I L x.f1.f0, I L x.f1.f1.f0, I L x.f1.f1.f1, I L x.f1.f1.f2, Y A5 x.f1.f2.length c5] ∧ x.f1.f2.length ≤ c5 ∧ k51.C w A5 x.f1.f2.length x.f1.f2 := by
 obtain ⟨_, _, rfl, rfl, s1⟩ := h
 obtain ⟨A5, c5, rfl, l5, g5⟩ := k34_open s1
 exact ⟨A5, c5, rfl, l5, g5⟩
theorem k54_openM {w : World} {base : Nat} {ok : Nat → Prop} {x : S54} {cs : List Value} (h : k54.M w base ok x cs) : ∃ v5, cs = [I L x.f0, I L x.f1.f0, I L x.f1.f1.f0, I L x.f1.f1.f1, I L x.f1.f1.f2, v5] ∧ k51.R 51 w base ok v5 x.f1.f2 := by
 obtain ⟨_, _, rfl, rfl, s1⟩ := h
 obtain ⟨v5, rfl, g5⟩ := k34_openM s1
 exact ⟨v5, rfl, g5⟩
theorem k54_mk (w : World) (x : S54) {A5 : Option Addr} {c5 : Nat} (l5 : x.f1.f2.length ≤ c5) (g5 : k51.C w A5 x.f1.f2.length x.f1.f2) : k54.K w x [I L x.f0, I L x.f1.f0, I L x.f1.f1.f0, I L x.f1.f1.f1, I L x.f1.f1.f2, Y A5 x.f1.f2.length c5] := ⟨[I L x.f0], [I L x.f1.f0, I L x.f1.f1.f0, I L x.f1.f1.f1, I L x.f1.f1.f2, Y A5 x.f1.f2.length c5], rfl, rfl, (k34_mk w x.f1 l5 g5)⟩
theorem k54_mkM (w : World) (base : Nat) (ok : Nat → Prop) (x : S54) {v5 : Value} (g5 : k51.R 51 w base ok v5 x.f1.f2) : k54.M w base ok x [I L x.f0, I L x.f1.f0, I L x.f1.f1.f0, I L x.f1.f1.f1, I L x.f1.f1.f2, v5] := ⟨[I L x.f0], [I L x.f1.f0, I L x.f1.f1.f0, I L x.f1.f1.f1, I L x.f1.f1.f2, v5], rfl, rfl, (k34_mkM w base ok x.f1 g5)⟩
theorem k54_openF {W : World} {ok : Nat → Prop} {x : S54} {cs : List Value} (h : Kd.FK k54 W ok x cs) : ∃ A5 c5, cs = [I L x.f0, I L x.f1.f0, I L x.f1.f1.f0, I L x.f1.f1.f1, I L x.f1.f1.f2, Y A5 x.f1.f2.length c5] ∧ x.f1.f2.length ≤ c5 ∧ Kd.F k51 W ok A5 x.f1.f2.length x.f1.f2 := by
 obtain ⟨A5, c5, rfl, l5, _⟩ := k54_open (Kd.FK_now h)
 exact ⟨A5,c5,rfl,l5,(fun W' hW=>by obtain ⟨A5_,c5_,he,l5_,g5_⟩:=k54_open (h W' hW);injection (Option.some.inj (show some (Value.slice A5 x.f1.f2.length c5)=some (Value.slice A5_ x.f1.f2.length c5_) from congrArg (fun l=>l[5]?) he)) with ha_ _ _;rw [ha_];exact g5_)⟩
theorem k54_mkF (W : World) (ok : Nat → Prop) (x : S54) {A5 : Option Addr} {c5 : Nat} (l5 : x.f1.f2.length ≤ c5) (g5 : Kd.F k51 W ok A5 x.f1.f2.length x.f1.f2) : Kd.FK k54 W ok x [I L x.f0, I L x.f1.f0, I L x.f1.f1.f0, I L x.f1.f1.f1, I L x.f1.f1.f2, Y A5 x.f1.f2.length c5] := fun W2 hW => k54_mk W2 x l5 (g5 W2 hW)
def rd_T54 (xs : List S54) (i : Int) : S54 := xs.getD i.toNat z54
theorem at_T54 {w : World} {A : Option Addr} {n : Nat} {xs : List S54} (h : Kd.C k54 w A n xs) (i : Int) (h0 : 0 ≤ i) (h1 : i < n) : ∃ ad A5 c5, A = some ad ∧ w.cell? (ad.add (i.toNat * 6)) = some (I L (rd_T54 xs i).f0) ∧ w.cell? ⟨(ad.add (i.toNat * 6)).block, (ad.add (i.toNat * 6)).off + 1, none⟩ = some (I L (rd_T54 xs i).f1.f0) ∧ w.cell? ⟨(ad.add (i.toNat * 6)).block, (ad.add (i.toNat * 6)).off + 2, none⟩ = some (I L (rd_T54 xs i).f1.f1.f0) ∧ w.cell? ⟨(ad.add (i.toNat * 6)).block, (ad.add (i.toNat * 6)).off + 3, none⟩ = some (I L (rd_T54 xs i).f1.f1.f1) ∧ w.cell? ⟨(ad.add (i.toNat * 6)).block, (ad.add (i.toNat * 6)).off + 4, none⟩ = some (I L (rd_T54 xs i).f1.f1.f2) ∧ w.cell? ⟨(ad.add (i.toNat * 6)).block, (ad.add (i.toNat * 6)).off + 5, none⟩ = some (Y A5 (rd_T54 xs i).f1.f2.length c5) ∧ (rd_T54 xs i).f1.f2.length ≤ c5 ∧ k51.C w A5 (rd_T54 xs i).f1.f2.length (rd_T54 xs i).f1.f2 := by
 obtain ⟨ad, c, e, _, hK, hc0⟩ := Kd.C_get h z54 i h0 h1
 have hc : ∀ j u, c[j]? = some u → w.cell? (ad.add (i.toNat * 6 + j)) = some u := hc0
 obtain ⟨A5, c5, rfl, l5, g5⟩ := k54_open hK
 exact ⟨ad,A5,c5,e,hc 0 _ rfl,by rw [← add_field _ _ 1 (by omega)];exact hc 1 _ rfl,by rw [← add_field _ _ 2 (by omega)];exact hc 2 _ rfl,by rw [← add_field _ _ 3 (by omega)];exact hc 3 _ rfl,by rw [← add_field _ _ 4 (by omega)];exact hc 4 _ rfl,by rw [← add_field _ _ 5 (by omega)];exact hc 5 _ rfl,l5,g5⟩

def rd_L12 (xs : List (List S67)) (i : Int) : (List S67) := xs.getD i.toNat ([] : List S67)
theorem at_L12 {w : World} {A : Option Addr} {n : Nat} {xs : List (List S67)} (h : Kd.C (Kd.slice 67 k67) w A n xs) (i : Int) (h0 : 0 ≤ i) (h1 : i < n) : ∃ ad A0 c0, A = some ad ∧ w.cell? (ad.add i.toNat) = some (Y A0 (rd_L12 xs i).length c0) ∧ (rd_L12 xs i).length ≤ c0 ∧ k67.C w A0 (rd_L12 xs i).length (rd_L12 xs i) := by
 obtain ⟨ad, c, e, _, hK, hc0⟩ := Kd.C_get h ([] : List S67) i h0 h1
 have hc : ∀ j u, c[j]? = some u → w.cell? (ad.add (i.toNat * 1 + j)) = some u := hc0
 obtain ⟨A0, c0, rfl, l0, g0⟩ := hK
 exact ⟨ad, A0, c0, e, by have hq := hc 0 _ rfl; rwa [Nat.mul_one, Nat.add_zero] at hq, l0, g0⟩

/-! #### struct type 29 -/
structure S29 where
 f0 : S26
 f1 : (List S67)
def z29 : S29 := ⟨z26, ([] : List S67)⟩
def k29 : Kd S29 := Kd.iso (Kd.pair k26 (Kd.slice 67 k67)) (fun x : S29 => (x.f0, x.f1))
theorem k29_open {w : World} {x : S29} {cs : List Value} (h : k29.K w x cs) : ∃ A4 c4 A5 c5, cs = [I L x.f0.f0, I L x.f0.f1.f0, I L x.f0.f1.f1, I L x.f0.f1.f2, Y A4 x.f0.f2.length c4, Y A5 x.f1.length c5] ∧ x.f0.f2.length ≤ c4 ∧ k89.C w A4 x.f0.f2.length x.f0.f2 ∧ x.f1.length ≤ c5 ∧ k67.C w A5 x.f1.length x.f1 := by
 obtain ⟨_, _, rfl, s0, ⟨A5, c5, rfl, l5, g5⟩⟩ := h
 obtain ⟨A4, c4, rfl, l4, g4⟩ := k26_open s0
 exact ⟨A4, c4, A5, c5, rfl, l4, g4, l5, g5⟩
theorem k29_openM {w : World} {base : Nat} {ok : Nat → Prop} {x : S29} {cs : List Value} (h : k29.M w base ok x cs) : ∃ v4 v5, cs = [I L x.f0.f0, I L x.f0.f1.f0, I L x.f0.f1.f1, I L x.f0.f1.f2, v4, v5] ∧ k89.R 89 w base ok v4 x.f0.f2 ∧ k67.R 67 w base ok v5 x.f1 := by
 obtain ⟨_, _, rfl, s0, ⟨v5, rfl, g5⟩⟩ := h
 obtain ⟨v4, rfl, g4⟩ := k26_openM s0
 exact ⟨v4, v5, rfl, g4, g5⟩
theorem k29_mk (w : World) (x : S29) {A4 : Option Addr} {c4 : Nat} (l4 : x.f0.f2.length ≤ c4) (g4 : k89.C w A4 x.f0.f2.length x.f0.f2) {A5 : Option Addr} {c5 : Nat} (l5 : x.f1.length ≤ c5) (g5 : k67.C w A5 x.f1.length x.f1) : k29.K w x [I L x.f0.f0, I L x.f0.f1.f0, I L x.f0.f1.f1, I L x.f0.f1.f2, Y A4 x.f0.f2.length c4, Y A5 x.f1.length c5] := ⟨[I L x.f0.f0, I L x.f0.f1.f0, I L x.f0.f1.f1, I L x.f0.f1.f2, Y A4 x.f0.f2.length c4], [Y A5 x.f1.length c5], rfl, (k26_mk w x.f0 l4 g4), ⟨A5, c5, rfl, l5, g5⟩⟩
theorem k29_mkM (w : World) (base : Nat) (ok : Nat → Prop) (x : S29) {v4 : Value} (g4 : k89.R 89 w base ok v4 x.f0.f2) {v5 : Value} (g5 : k67.R 67 w base ok v5 x.f1) : k29.M w base ok x [I L x.f0.f0, I L x.f0.f1.f0, I L x.f0.f1.f1, I L x.f0.f1.f2, v4, v5] := ⟨[I L x.f0.f0, I L x.f0.f1.f0, I L x.f0.f1.f1, I L x.f0.f1.f2, v4], [v5], rfl, (k26_mkM w base ok x.f0 g4), ⟨v5, rfl, g5⟩⟩
theorem k29_openF {W : World} {ok : Nat → Prop} {x : S29} {cs : List Value} (h : Kd.FK k29 W ok x cs) : ∃ A4 c4 A5 c5, cs = [I L x.f0.f0, I L x.f0.f1.f0, I L x.f0.f1.f1, I L x.f0.f1.f2, Y A4 x.f0.f2.length c4, Y A5 x.f1.length c5] ∧ x.f0.f2.length ≤ c4 ∧ Kd.F k89 W ok A4 x.f0.f2.length x.f0.f2 ∧ x.f1.length ≤ c5 ∧ Kd.F k67 W ok A5 x.f1.length x.f1 := by
 obtain ⟨A4, c4, A5, c5, rfl, l4, _, l5, _⟩ := k29_open (Kd.FK_now h)
 exact ⟨A4,c4,A5,c5,rfl,l4,(fun W' hW=>by obtain ⟨A4_,c4_,A5_,c5_,he,l4_,g4_,l5_,g5_⟩:=k29_open (h W' hW);injection (Option.some.inj (show some (Value.slice A4 x.f0.f2.length c4)=some (Value.slice A4_ x.f0.f2.length c4_) from congrArg (fun l=>l[4]?) he)) with ha_ _ _;rw [ha_];exact g4_),l5,(fun W' hW=>by obtain ⟨A4_,c4_,A5_,c5_,he,l4_,g4_,l5_,g5_⟩:=k29_open (h W' hW);injection (Option.some.inj (show some (Value.slice A5 x.f1.length c5)=some (Value.slice A5_ x.f1.length c5_) from congrArg (fun l=>l[5]?) he)) with ha_ _ _;rw [ha_];exact g5_)⟩
theorem k29_mkF (W : World) (ok : Nat → Prop) (x : S29) {A4 : Option Addr} {c4 : Nat} (l4 : x.f0.f2.length ≤ c4) (g4 : Kd.F k89 W ok A4 x.f0.f2.length x.f0.f2) {A5 : Option Addr} {c5 : Nat} (l5 : x.f1.length ≤ c5) (g5 : Kd.F k67 W ok A5 x.f1.length x.f1) : Kd.FK k29 W ok x [I L x.f0.f0, I L x.f0.f1.f0, I L x.f0.f1.f1, I L x.f0.f1.f2, Y A4 x.f0.f2.length c4, Y A5 x.f1.length c5] := fun W2 hW => k29_mk W2 x l4 (g4 W2 hW) l5 (g5 W2 hW)
def rd_T29 (xs : List S29) (i : Int) : S29 := xs.getD i.toNat z29
theorem at_T29 {w : World} {A : Option Addr} {n : Nat} {xs : List S29} (h : Kd.C k29 w A n xs) (i : Int) (h0 : 0 ≤ i) (h1 : i < n) : ∃ ad A4 c4 A5 c5, A = some ad ∧ w.cell? (ad.add (i.toNat * 6)) = some (I L (rd_T29 xs i).f0.f0) ∧ w.cell? ⟨(ad.add (i.toNat * 6)).block, (ad.add (i.toNat * 6)).off + 1, none⟩ = some (I L (rd_T29 xs i).f0.f1.f0) ∧ w.cell? ⟨(ad.add (i.toNat * 6)).block, (ad.add (i.toNat * 6)).off + 2, none⟩ = some (I L (rd_T29 xs i).f0.f1.f1) ∧ w.cell? ⟨(ad.add (i.toNat * 6)).block, (ad.add (i.toNat * 6)).off + 3, none⟩ = some (I L (rd_T29 xs i).f0.f1.f2) ∧ w.cell? ⟨(ad.add (i.toNat * 6)).block, (ad.add (i.toNat * 6)).off + 4, none⟩ = some (Y A4 (rd_T29 xs i).f0.f2.length c4) ∧ w.cell? ⟨(ad.add (i.toNat * 6)).block, (ad.add (i.toNat * 6)).off + 5, none⟩ = some (Y A5 (rd_T29 xs i).f1.length c5) ∧ (rd_T29 xs i).f0.f2.length ≤ c4 ∧ k89.C w A4 (rd_T29 xs i).f0.f2.length (rd_T29 xs i).f0.f2 ∧ (rd_T29 xs i).f1.length ≤ c5 ∧ k67.C w A5 (rd_T29 xs i).f1.length (rd_T29 xs i).f1 := by
 obtain ⟨ad, c, e, _, hK, hc0⟩ := Kd.C_get h z29 i h0 h1
 have hc : ∀ j u, c[j]? = some u → w.cell? (ad.add (i.toNat * 6 + j)) = some u := hc0
 obtain ⟨A4, c4, A5, c5, rfl, l4, g4, l5, g5⟩ := k29_open hK
 exact ⟨ad,A4,c4,A5,c5,e,hc 0 _ rfl,by rw [← add_field _ _ 1 (by omega)];exact hc 1 _ rfl,by rw [← add_field _ _ 2 (by omega)];exact hc 2 _ rfl,by rw [← add_field _ _ 3 (by omega)];exact hc 3 _ rfl,by rw [← add_field _ _ 4 (by omega)];exact hc 4 _ rfl,by rw [← add_field _ _ 5 (by omega)];exact hc 5 _ rfl,l4,g4,l5,g5⟩

end Go.Proofs.Ytjfknflhajeglab.PFnExactTreeTenant
