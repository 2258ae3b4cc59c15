-- by a program of this session's, over the kit's words
import Derived.Test.YtoacddcbiceeeabPZFnCostAdds
import Derived.Test.YtoacddcbiceeeabPFnCostAddsx0
namespace Go.Proofs.Ytoacddcbiceeeab.PFnCostAdds
open Go.RowKit Go.Proofs.YtoacddcbiceeeabW.PrintWords Go.Proofs.YtoacddcbiceeeabW.PrintLast Go.Proofs.YtoacddcbiceeeabW.PrintMore Go.Proofs.YtoacddcbiceeeabV Go.Proofs.Ytoacddcbiceeeab.ZFnCostAdds
open Go.Value renaming int → I, slice → Y
open Go.IntKind renaming i64 → L
open Aside0 renaming mk → D
open Option renaming bind_eq_some_iff → bs_
attribute [local go_sem] max2_int min2_int max_two min_two max_three min_three max_four min_four   -- for this text's walks alone
set_option linter.unusedVariables false
set_option linter.unusedSimpArgs false

/-! ### laws_big: function 4 -/
def laws_big.f (l0 : List Int) : Option (Bool) := some (decide ((l0.length : Int) > 1048576))
set_option maxHeartbeats 8000000 in
set_option maxRecDepth 100000 in
theorem laws_big.calls (A0 : Option Addr) (c0 : Nat) (l0 : List Int) (r : Bool) (w : World) (hr0 : Kd.C (Kd.int .u8) w A0 l0.length l0) (hc0 : l0.length ≤ c0) (h : laws_big.f l0 = some r) :
  Calls Try.prog 4 #[Y A0 l0.length c0] w fun e w' => e = .returned (.bool r) ∧ Drawn0 w w' := by
 have HR0 := D hr0
 have HC0 := D hc0
 clear hr0 hc0
 have H : (some (decide ((l0.length : Int) > 1048576))) = some r := h
 clear h
 obtain rfl := Option.some.inj H
 go_enter Try.func4, Try.ntmps4
 go_wp2
 go_ret
 exact ⟨by first | rfl | (simp; done) | (simp [*]; done), by repeat (first | exact Drawn0.refl _ | apply Drawn0.step)⟩

/-- A state of type 55 at block g of W; what its slices lead to came in by w0. -/
def IsS55 (w0 W : World) (g : Nat) (f0 : List Int) (f1 f2 : Int) : Prop := ∃ A0 c0, W.heap[g]? = some (.cells #[Y A0 f0.length c0, I L f1, I L f2] 55 (0, 0)) ∧ w0.heap.size ≤ g ∧ Kd.C (Kd.int .u8) w0 A0 f0.length f0
theorem IsS55.grown {w0 W : World} {g : Nat} {f0 : List Int} {f1 : Int} {f2 : Int} {W1 : World} {row : Option Nat} (h : IsS55 w0 W g f0 f1 f2) (hw : W.grownBy W1 row) (hne : some g ≠ row) : IsS55 w0 W1 g f0 f1 f2 := by
 obtain ⟨A0, c0, hb, hg, hr0⟩ := h
 exact ⟨A0, c0, blk_grown hb hw hne, hg, hr0⟩
theorem IsS55.own_neN {w0 W : World} {g : Nat} {f0 : List Int} {f1 : Int} {f2 : Int} {α : Type} {d : Kd α} {e : Nat} {base : Nat} {ok : Nat → Prop} {v : Value} {xs : List α} (h : IsS55 w0 W g f0 f1 f2) (ho : Kd.N d e W base ok v xs) (ht : e ≠ 55) : some g ≠ v.ownBlock := by
 obtain ⟨A0, c0, hb, hg, hr0⟩ := h
 exact Kd.N_ne ho hb ht
theorem IsS55.fresh {w0 W : World} {g : Nat} {f0 : List Int} {f1 : Int} {f2 : Int} (h : IsS55 w0 W g f0 f1 f2) : ∀ k, W.heap.size ≤ k → k ≠ g := by
 obtain ⟨A0, c0, hb, hg, hr0⟩ := h
 exact Kd.freshB hb
theorem IsS55.kept {w0 W : World} {g : Nat} {f0 : List Int} {f1 : Int} {f2 : Int} {W1 : World} {S : Nat → Prop} (h : IsS55 w0 W g f0 f1 f2) (hk : Kept W W1 S) (hne : ¬ S g) : IsS55 w0 W1 g f0 f1 f2 := by
 obtain ⟨A0, c0, hb, hg, hr0⟩ := h
 exact ⟨A0, c0, blk_kept hb hk hne, hg, hr0⟩
theorem IsS55.below {w0 W : World} {g : Nat} {f0 : List Int} {f1 : Int} {f2 : Int} {W1 : World} (h : IsS55 w0 W g f0 f1 f2) (hw : Below W.heap.size W W1) : IsS55 w0 W1 g f0 f1 f2 := h.grown (grown_of_below hw none) (by simp)
theorem IsS55.alloc {w0 W : World} {g : Nat} {f0 : List Int} {f1 : Int} {f2 : Int} (h : IsS55 w0 W g f0 f1 f2) (o : Obj) : IsS55 w0 (W.alloc o) g f0 f1 f2 := h.below (below_alloc (Below.refl _ _) o)
theorem IsS55.drewN {w0 W : World} {g : Nat} {f0 : List Int} {f1 : Int} {f2 : Int} (h : IsS55 w0 W g f0 f1 f2) (m : Nat) : IsS55 w0 (W.drewN m) g f0 f1 f2 := h
theorem IsS55.drew {w0 W : World} {g : Nat} {f0 : List Int} {f1 : Int} {f2 : Int} (h : IsS55 w0 W g f0 f1 f2) : IsS55 w0 W.drew g f0 f1 f2 := h
theorem IsS55.at_ {w0 W : World} {g : Nat} {f0 : List Int} {f1 : Int} {f2 : Int} {w' : World} {m : Nat} (hq : W.drewN m = w') (h : IsS55 w0 W g f0 f1 f2) : IsS55 w0 w' g f0 f1 f2 := by subst hq; exact IsS55.drewN h m
theorem IsS55.apart {w0 W : World} {g : Nat} {f0 : List Int} {f1 : Int} {f2 : Int} {α : Type} {d : Kd α} {e : Nat} {base : Nat} {ok : Nat → Prop} {v : Value} {xs : List α} (h : IsS55 w0 W g f0 f1 f2) (ho : d.R e W base ok v xs) (ht : ∀ q, q ∈ e :: d.E → q ≠ 55) : d.R e W base (fun k => ok k ∧ k ≠ g) v xs := by
 obtain ⟨A0, c0, hb, hg, hr0⟩ := h
 exact Kd.R_types ho hb ht
theorem IsS55.own_ne {w0 W : World} {g : Nat} {f0 : List Int} {f1 : Int} {f2 : Int} {α : Type} {d : Kd α} {e : Nat} {base : Nat} {ok : Nat → Prop} {v : Value} {xs : List α} (h : IsS55 w0 W g f0 f1 f2) (ho : d.R e W base ok v xs) (ht : e ≠ 55) : some g ≠ v.ownBlock := by
 obtain ⟨A0, c0, hb, hg, hr0⟩ := h
 exact Kd.R_ne ho hb ht
theorem IsS55.apartQ {w0 W : World} {g : Nat} {f0 : List Int} {f1 : Int} {f2 : Int} {α : Type} {d : Kd α} {e : Nat} {base : Nat} {ok : Nat → Prop} {v : Value} {xs : List α} (h : IsS55 w0 W g f0 f1 f2) (ho : d.Q e W base ok v xs) (ht : ∀ q, q ∈ e :: d.E → q ≠ 55) : d.Q e W base (fun k => ok k ∧ k ≠ g) v xs := by
 obtain ⟨A0, c0, hb, hg, hr0⟩ := h
 exact Kd.Q_types ho hb ht
theorem IsS55.own_neQ {w0 W : World} {g : Nat} {f0 : List Int} {f1 : Int} {f2 : Int} {α : Type} {d : Kd α} {e : Nat} {base : Nat} {ok : Nat → Prop} {v : Value} {xs : List α} (h : IsS55 w0 W g f0 f1 f2) (ho : d.Q e W base ok v xs) (ht : e ≠ 55) : some g ≠ v.ownBlock := by
 obtain ⟨A0, c0, hb, hg, hr0⟩ := h
 exact Kd.Q_ne ho hb ht
theorem IsS55.apartS {w0 W : World} {g : Nat} {f0 : List Int} {f1 : Int} {f2 : Int} {α : Type} {d : Kd α} {e : Nat} {base : Nat} {ok : Nat → Prop} {v : Value} {xs : List α} (h : IsS55 w0 W g f0 f1 f2) (ho : d.S e W base ok v xs) (ht : ∀ q, q ∈ e :: d.E → q ≠ 55) : d.S e W base (fun k => ok k ∧ k ≠ g) v xs := by
 obtain ⟨A0, c0, hb, hg, hr0⟩ := h
 exact Kd.S_types ho hb ht
theorem IsS55.own_neS {w0 W : World} {g : Nat} {f0 : List Int} {f1 : Int} {f2 : Int} {α : Type} {d : Kd α} {e : Nat} {base : Nat} {ok : Nat → Prop} {v : Value} {xs : List α} (h : IsS55 w0 W g f0 f1 f2) (ho : d.S e W base ok v xs) (ht : e ≠ 55) : some g ≠ v.ownBlock := by
 obtain ⟨A0, c0, hb, hg, hr0⟩ := h
 exact Kd.S_ne ho hb ht
theorem IsS55.lt {w0 W : World} {g : Nat} {f0 : List Int} {f1 : Int} {f2 : Int} (h : IsS55 w0 W g f0 f1 f2) : g < W.heap.size := by
 obtain ⟨A0, c0, hb, hg, hr0⟩ := h
 exact blk_lt hb
theorem IsS55.ge {w0 W : World} {g : Nat} {f0 : List Int} {f1 : Int} {f2 : Int} (h : IsS55 w0 W g f0 f1 f2) : w0.heap.size ≤ g := by
 obtain ⟨A0, c0, hb, hg, hr0⟩ := h
 exact hg
theorem IsS55.ne_blk {w0 W : World} {g : Nat} {f0 : List Int} {f1 : Int} {f2 : Int} {a : Nat} {cs : Array Value} {t : TypeId} {fr : Nat × Nat} (h : IsS55 w0 W g f0 f1 f2) (hb2 : W.heap[a]? = some (.cells cs t fr)) (ht : t ≠ 55) : g ≠ a := by
 obtain ⟨A0, c0, hb, hg, hr0⟩ := h
 rintro rfl
 rw [hb] at hb2
 injection hb2 with hb2
 injection hb2 with _ ht2
 exact ht ht2.symm
theorem IsS55.far {w0 W : World} {g : Nat} {f0 : List Int} {f1 : Int} {f2 : Int} {p : Addr} (h : IsS55 w0 W g f0 f1 f2) (hne : g ≠ p.block) (u : Value) : IsS55 w0 (W.setCell p u) g f0 f1 f2 := by
 obtain ⟨A0, c0, hb, hg, hr0⟩ := h
 exact ⟨A0, c0, blk_far hb hne u, hg, hr0⟩
theorem cellS55_0 {W : World} {g : Nat} {A0 : Option Addr} {c0 : Nat} {f0 : List Int} {f1 : Int} {f2 : Int} (h : W.heap[g]? = some (.cells #[Y A0 f0.length c0, I L f1, I L f2] 55 (0, 0))) : W.cell? ⟨g, 0, none⟩ = some (Y A0 f0.length c0) := (blk_cell h 0).trans rfl
theorem cellS55_1 {W : World} {g : Nat} {A0 : Option Addr} {c0 : Nat} {f0 : List Int} {f1 : Int} {f2 : Int} (h : W.heap[g]? = some (.cells #[Y A0 f0.length c0, I L f1, I L f2] 55 (0, 0))) : W.cell? ⟨g, 1, none⟩ = some (I L f1) := (blk_cell h 1).trans rfl
theorem IsS55.set_1 {w0 W : World} {g : Nat} {f0 : List Int} {f1 : Int} {f2 : Int} (h : IsS55 w0 W g f0 f1 f2) (x : Int) : IsS55 w0 (W.setCell ⟨g, 1, none⟩ (I L x)) g f0 x f2 := by
 obtain ⟨A0, c0, hb, hg, hr0⟩ := h
 exact ⟨A0, c0, by simpa using blk_set hb 1 (I L x), hg, hr0⟩
theorem cellS55_2 {W : World} {g : Nat} {A0 : Option Addr} {c0 : Nat} {f0 : List Int} {f1 : Int} {f2 : Int} (h : W.heap[g]? = some (.cells #[Y A0 f0.length c0, I L f1, I L f2] 55 (0, 0))) : W.cell? ⟨g, 2, none⟩ = some (I L f2) := (blk_cell h 2).trans rfl
theorem IsS55.set_2 {w0 W : World} {g : Nat} {f0 : List Int} {f1 : Int} {f2 : Int} (h : IsS55 w0 W g f0 f1 f2) (x : Int) : IsS55 w0 (W.setCell ⟨g, 2, none⟩ (I L x)) g f0 f1 x := by
 obtain ⟨A0, c0, hb, hg, hr0⟩ := h
 exact ⟨A0, c0, by simpa using blk_set hb 2 (I L x), hg, hr0⟩
theorem IsS55.new (w0 W : World) (A0 : Option Addr) (c0 : Nat) (f0 : List Int) (f1 f2 : Int) (hB : Below w0.heap.size w0 W) (hr0 : Kd.C (Kd.int .u8) w0 A0 f0.length f0) : IsS55 w0 (W.alloc (.cells #[Y A0 f0.length c0, I L f1, I L f2] 55)) W.heap.size f0 f1 f2 := ⟨A0, c0, by simpa using heap_alloc_new W _, hB.size, hr0⟩
theorem IsS55.farN {w0 W : World} {g b o : Nat} {f0 : List Int} {f1 : Int} {f2 : Int} {vs : List Value} (h : IsS55 w0 W g f0 f1 f2) (hne : g ≠ b) : IsS55 w0 (putN W b o vs) g f0 f1 f2 := putN_ind (C := fun w => IsS55 w0 w g f0 f1 f2) (fun _ _ _ h => IsS55.far h hne _) vs W o h
theorem pS55_ {w0 W W' : World} {g : Nat} {f0 : List Int} {f1 : Int} {f2 : Int} {e0 : List Int} {e1 : Int} {e2 : Int} (h : IsS55 w0 W g f0 f1 f2) (k : IsS55 w0 W g f0 f1 f2 → IsS55 w0 W' g e0 e1 e2 := by intro h; repeat (first | (with_reducible first | exact h | apply IsS55.alloc | apply IsS55.drewN | apply IsS55.drew | apply IsS55.set_1 | apply IsS55.set_2 | refine IsS55.far ?_ (Aside0.out (by assumption)) _ | refine IsS55.farN ?_ (Aside0.out (by assumption))) | exact h)) : IsS55 w0 W' g e0 e1 e2 := k h
theorem pU55_ {w0 W W' : World} {g : Nat} {f0 : List Int} {f1 : Int} {f2 : Int} (h : IsS55 w0 W g f0 f1 f2) (k : IsS55 w0 W g f0 f1 f2 → IsS55 w0 W' g f0 f1 f2 := by intro h; repeat (first | (with_reducible first | exact h | apply IsS55.alloc | apply IsS55.drewN | apply IsS55.drew | apply IsS55.set_1 | apply IsS55.set_2 | refine IsS55.far ?_ (Aside0.out (by assumption)) _ | refine IsS55.farN ?_ (Aside0.out (by assumption))) | exact h)) : IsS55 w0 W' g f0 f1 f2 := k h
theorem pT55_ {B : Nat} {w0 w w' : World} (h : Below B w0 w) (k : Below B w0 w → Below B w0 w' := by intro h; repeat (first | (with_reducible first | exact h | apply below_alloc | apply pw_below_drewN | apply below_drew1 | refine below_set ?_ (IsS55.ge (Aside0.out (by assumption))) | refine below_set ?_ (Aside0.out (by assumption)) | refine belowN_ ?_ (IsS55.ge (Aside0.out (by assumption))) | refine belowN_ ?_ (Aside0.out (by assumption))) | exact h)) : Below B w0 w' := k h

/-! ### spec_l01Open: function 8 -/
def spec_l01Open.f (l0 : List Int) : Option (List Int × Int × Int) := some (l0, 0, 71 + ((l0.length : Int) % 1000))
set_option maxHeartbeats 8000000 in
set_option maxRecDepth 100000 in
theorem spec_l01Open.calls (A0 : Option Addr) (c0 : Nat) (l0 r1 : List Int) (r2 r3 : Int) (w0 w : World) (hB : Below w0.heap.size w0 w) (hr0 : Kd.C (Kd.int .u8) w0 A0 l0.length l0) (hc0 : l0.length ≤ c0) (h : spec_l01Open.f l0 = some (r1, r2, r3)) :
  Calls Try.prog 8 #[Y A0 l0.length c0] w fun e w'=>∃ g_:Nat,e=.returned (.pointer (some ⟨g_,0,none⟩))∧IsS55 w0 w' g_ r1 r2 r3∧Below w0.heap.size w0 w'∧Below w.heap.size w w':=by
 have hu55 := Try.underlying55
 have HR0 := D hr0
 have HC0 := D hc0
 clear hr0 hc0
 have HBW := D (Below.refl w.heap.size w)
 have HW0 := D hB.size
 have HB := D hB
 clear hB
 have H : (some (l0, 0, 71 + ((l0.length : Int) % 1000))) = some (r1, r2, r3) := h
 clear h
 simp only [Option.some.injEq, Prod.mk.injEq] at H
 obtain ⟨rfl, rfl, rfl⟩ := H
 go_enter Try.func8, Try.ntmps8
 go_wp2_with (first|((with_reducible refine gate_dst (N:=9) rfl ?_);refine bx_ (N:=9) (cs:=#[Y A0 l0.length c0,I L 0,I L (71 + ((l0.length:Int) % 1000))]) (t:=55) ?_;intro gb101 hg w2 hbox hb;have n_:=an_ (below_step HBW.out hb)<|an_ (below_step (pB_ HB.out) hb)<|an_ (hbox)<|an_ ((by rw [hg];exact (below_size Z16):w.heap.size≤gb101))<|D (Nat.le_trans HW0.out (by rw [hg];exact (below_size Z16):w.heap.size≤gb101):w0.heap.size≤gb101);clear HBW HB;obtain ⟨HBW,HB,BK101,GW101,GE101⟩:=n_;clear hb hbox hg))
 go_ret
 exact ⟨_,rfl,(show IsS55 w0 _ gb101 l0 0 (71 + ((l0.length:Int) % 1000)) from ⟨_,_,by refine pk_ ?_;exact BK101.out,GE101.out,HR0.out⟩),pB_ HB.out,by repeat (first|(with_reducible first|exact HBW.out|apply below_alloc|apply pw_below_drewN|apply below_drew1|refine below_set ?_ GW101.out)|exact HBW.out)⟩

/-! ### spec_l01Cur_pick: function 12 -/
def spec_l01Cur_pick.f (s0_0 : List Int) (s0_1 s0_2 a1 : Int) : Option (Int × Int × Int) := if a1 < 2 then (some (0, s0_1, s0_2)) else (if s0_1 < (s0_0.length : Int) then (if 0 ≤ s0_1 then (if a1 = 0 then (none) else (some (Int.tmod (wrap64 (rd s0_0 s0_1)) a1, wrap64 (s0_1 + 1), s0_2))) else (none)) else (if (s0_0.length : Int) > 0 then (if (s0_0.length : Int) = 0 then (none) else (if 0 ≤ (Int.tmod s0_1 (s0_0.length : Int)) then (if (Int.tmod s0_1 (s0_0.length : Int)) < (s0_0.length : Int) then (if a1 = 0 then (none) else (some (Int.tmod (wrap64 ((wrap64 (Int.tdiv (Int.tmod (wrap64 ((wrap64 (s0_2 * 1103)) + 12345)) 65521) 7)) + (wrap64 (rd s0_0 (Int.tmod s0_1 (s0_0.length : Int)))))) a1, wrap64 (s0_1 + 1), Int.tmod (wrap64 ((wrap64 (s0_2 * 1103)) + 12345)) 65521))) else (none)) else (none))) else (if a1 = 0 then (none) else (some (Int.tmod (0 : Int) a1, wrap64 (s0_1 + 1), Int.tmod (wrap64 ((wrap64 (s0_2 * 1103)) + 12345)) 65521)))))
set_option maxHeartbeats 8000000 in
set_option maxRecDepth 100000 in
theorem spec_l01Cur_pick.calls (g : Nat) (s0_0 : List Int) (s0_1 s0_2 a1 r1 r2 r3 : Int) (w0 w : World) (hI : IsS55 w0 w g s0_0 s0_1 s0_2) (hB : Below w0.heap.size w0 w) (h : spec_l01Cur_pick.f s0_0 s0_1 s0_2 a1 = some (r1, r2, r3)) :
  Calls Try.prog 12 #[.pointer (some ⟨g, 0, none⟩), I L a1] w fun e w' => e = .returned (I L r1) ∧ IsS55 w0 w' g s0_0 r2 r3 ∧ Below w0.heap.size w0 w' ∧ KeepBut w w' g none := by
 have HI0 := D hI
 have HK := D (KeepBut.refl w g none)
 have HL := D hB.size
 clear hI
 have HW0 := D hB.size
 have HB := D hB
 clear hB
 have H:(if a1 < 2 then (some (0,s0_1,s0_2)) else (if s0_1 < (s0_0.length:Int) then (if 0≤s0_1 then (if a1=0 then (none) else (some (Int.tmod (wrap64 (rd s0_0 s0_1)) a1,wrap64 (s0_1 + 1),s0_2))) else (none)) else (if (s0_0.length:Int) > 0 then (if (s0_0.length:Int)=0 then (none) else (if 0≤(Int.tmod s0_1 (s0_0.length:Int)) then (if (Int.tmod s0_1 (s0_0.length:Int)) < (s0_0.length:Int) then (if a1=0 then (none) else (some (Int.tmod (wrap64 ((wrap64 (Int.tdiv (Int.tmod (wrap64 ((wrap64 (s0_2 * 1103)) + 12345)) 65521) 7)) + (wrap64 (rd s0_0 (Int.tmod s0_1 (s0_0.length:Int)))))) a1,wrap64 (s0_1 + 1),Int.tmod (wrap64 ((wrap64 (s0_2 * 1103)) + 12345)) 65521))) else (none)) else (none))) else (if a1=0 then (none) else (some (Int.tmod (0:Int) a1,wrap64 (s0_1 + 1),Int.tmod (wrap64 ((wrap64 (s0_2 * 1103)) + 12345)) 65521))))))=some (r1,r2,r3):=h
 clear h
 by_cases c3 : a1 < 2
 ·rw [if_pos c3] at H
  have c3b0 : decide (a1 < 2) = true := decide_eq_true c3; clear c3; simp only [Option.some.injEq, Prod.mk.injEq] at H; obtain ⟨rfl, rfl, rfl⟩ := H; go_enter Try.func12, Try.ntmps12
  go_wp2
  repeat (go_quiet (fail); try go_wp2)
  go_ret; exact ⟨er_, pS55_ HI0.out, pT55_ HB.out, pK_ HK.out⟩
 ·rw [if_neg c3] at H
  have c3b0 : decide (a1 < 2) = false := decide_eq_false c3; clear c3
  by_cases c4 : s0_1 < (s0_0.length : Int)
  ·rw [if_pos c4] at H
   have c4b0 : decide (s0_1 < (s0_0.length : Int)) = true := decide_eq_true c4; clear c4
   by_cases c5 : 0 ≤ s0_1
   ·rw [if_pos c5] at H
    have c5b0 : decide (0 ≤ s0_1) = true := decide_eq_true c5; clear c5
    by_cases c6 : a1 = 0
    ·rw [if_pos c6] at H
     exact absurd H (by simp)
    ·rw [if_neg c6] at H
     have c6b0:(a1 == 0)=false:=beq_eq_false_iff_ne.mpr c6;have c6b1:(a1 != 0)=true:=bne_iff_ne.mpr c6;simp only [Option.some.injEq,Prod.mk.injEq] at H;obtain ⟨rfl,rfl,rfl⟩:=H;obtain ⟨ASz7_0,cSz7_0,HGz7,hgz7,HSz7_0⟩:=HI0.out;have hcz7_0:=cellS55_0 HGz7;have hcz7_1:=cellS55_1 HGz7;have hcz7_2:=cellS55_2 HGz7;have hfz7_1:=blk_frozen HGz7 1;have hfz7_2:=blk_frozen HGz7 2;clear HGz7 hgz7;have p102:0≤(s0_1:Int):=od_ Z21;have q102:s0_1 < (s0_0.length:Int):=od_ Z21;obtain ⟨ad102,e102,hx102_0⟩:=Kd.at_int HSz7_0 s0_1 p102 q102;cases e102;replace hx102_0:=pw_cell_below HB.out hx102_0;replace p102:=eq_true p102;replace q102:=eq_true q102;go_enter Try.func12,Try.ntmps12
     go_wp2
     repeat (go_quiet (fail); try go_wp2)
     go_ret; exact ⟨er_, pS55_ HI0.out, pT55_ HB.out, pK_ HK.out⟩
   ·rw [if_neg c5] at H
    exact absurd H (by simp)
  ·rw [if_neg c4] at H
   have c4b0:decide (s0_1 < (s0_0.length:Int))=false:=decide_eq_false c4;clear c4;have HU8:=D H;clear H;obtain ⟨ASz9_0,cSz9_0,HGz9,hgz9,HSz9_0⟩:=HI0.out;have hcz9_0:=cellS55_0 HGz9;have hcz9_1:=cellS55_1 HGz9;have hcz9_2:=cellS55_2 HGz9;have hfz9_1:=blk_frozen HGz9 1;have hfz9_2:=blk_frozen HGz9 2;clear HGz9 hgz9;go_enter Try.func12,Try.ntmps12
   go_upto_if 44 with (fail)
   repeat (go_quiet (fail); go_upto_if 44 with (fail))
   refine relet_ (F:=fun w10=>Aside0 (IsS55 w0 w10 g s0_0 s0_1 (Int.tmod (wrap64 ((wrap64 (s0_2 * 1103)) + 12345)) 65521))∧Aside0 (KeepBut w w10 g none)∧Aside0 (Below w0.heap.size w0 w10)) ⟨⟨pS55_ HI0.out⟩,⟨pK_ HK.out⟩,⟨pT55_ HB.out⟩⟩ ?_;(try clear HI0);(try clear HK);(try clear HB);rintro w10 ⟨HI0,HK,HB⟩;have H:=HU8.out;clear HU8
   by_cases c11 : (s0_0.length : Int) > 0
   ·rw [if_pos c11] at H
    have c11b0:decide (0 < (s0_0.length:Int))=true:=decide_eq_true c11;have c11b1:decide (0 < s0_0.length)=true:=decide_eq_true (by omega);clear c11;refine rw_ c11b0 ?_
    by_cases c12 : (s0_0.length : Int) = 0
    ·rw [if_pos c12] at H
     exact absurd H (by simp)
    ·rw [if_neg c12] at H
     have c12b0 : ((s0_0.length : Int) == 0) = false := beq_eq_false_iff_ne.mpr c12; have c12b1 : ((s0_0.length : Int) != 0) = true := bne_iff_ne.mpr c12
     have c12b2 : ¬ (s0_0 = []) := fun h_ => c12 (by rw [h_]; rfl)
     obtain ⟨ji13, hji13⟩ : ∃ j_ : Int, (Int.tmod s0_1 (s0_0.length : Int)) = j_ := ⟨_, rfl⟩
     replace H:(if 0≤(ji13) then (if (ji13) < (s0_0.length:Int) then (if a1=0 then (none) else (some (Int.tmod (wrap64 ((wrap64 (Int.tdiv (Int.tmod (wrap64 ((wrap64 (s0_2 * 1103)) + 12345)) 65521) 7)) + (wrap64 (rd s0_0 (ji13))))) a1,wrap64 (s0_1 + 1),Int.tmod (wrap64 ((wrap64 (s0_2 * 1103)) + 12345)) 65521))) else (none)) else (none))=some (r1,r2,r3):=by first|(rw [hji13] at H;exact H)|(simp only [hji13] at H ⊢;exact H)
     by_cases c14 : 0 ≤ (ji13)
     ·rw [if_pos c14] at H
      have c14b0 : decide (0 ≤ (ji13)) = true := decide_eq_true c14; clear c14
      by_cases c15 : (ji13) < (s0_0.length : Int)
      ·rw [if_pos c15] at H
       have c15b0 : decide ((ji13) < (s0_0.length : Int)) = true := decide_eq_true c15; clear c15
       by_cases c16 : a1 = 0
       ·rw [if_pos c16] at H
        exact absurd H (by simp)
       ·rw [if_neg c16] at H
        have c16b0:(a1 == 0)=false:=beq_eq_false_iff_ne.mpr c16;have c16b1:(a1 != 0)=true:=bne_iff_ne.mpr c16;simp only [Option.some.injEq,Prod.mk.injEq] at H;obtain ⟨rfl,rfl,rfl⟩:=H;obtain ⟨ASz17_0,cSz17_0,HGz17,hgz17,HSz17_0⟩:=HI0.out;have hcz17_0:=cellS55_0 HGz17;have hcz17_1:=cellS55_1 HGz17;have hcz17_2:=cellS55_2 HGz17;have hfz17_1:=blk_frozen HGz17 1;have hfz17_2:=blk_frozen HGz17 2;clear HGz17 hgz17;have p103:0≤((ji13):Int):=od_ Z21;have q103:(ji13) < (s0_0.length:Int):=od_ Z21;obtain ⟨ad103,e103,hx103_0⟩:=Kd.at_int HSz17_0 (ji13) p103 q103;cases e103;replace hx103_0:=pw_cell_below HB.out hx103_0;replace p103:=eq_true p103;replace q103:=eq_true q103
        go_wp2
        repeat (go_quiet (fail); try go_wp2)
        go_ret;exact ⟨by first|rfl|(simp [errW_none,errW_some] <;> rfl)|(simp only [← hji13];first|rfl|(simp [errW_none,errW_some] <;> rfl))|(simp [*,errW_none,errW_some] <;> rfl),pS55_ HI0.out,pT55_ HB.out,pK_ HK.out⟩
      ·rw [if_neg c15] at H
       exact absurd H (by simp)
     ·rw [if_neg c14] at H
      exact absurd H (by simp)
   ·rw [if_neg c11] at H
    have c11b0:decide (0 < (s0_0.length:Int))=false:=decide_eq_false c11;have c11b1:decide (0 < s0_0.length)=false:=decide_eq_false (by omega);clear c11;refine rw_ c11b0 ?_
    by_cases c18 : a1 = 0
    ·rw [if_pos c18] at H
     exact absurd H (by simp)
    ·rw [if_neg c18] at H
     have c18b0:(a1 == 0)=false:=beq_eq_false_iff_ne.mpr c18;have c18b1:(a1 != 0)=true:=bne_iff_ne.mpr c18;simp only [Option.some.injEq,Prod.mk.injEq] at H;obtain ⟨rfl,rfl,rfl⟩:=H;obtain ⟨ASz19_0,cSz19_0,HGz19,hgz19,HSz19_0⟩:=HI0.out;have hcz19_0:=cellS55_0 HGz19;have hcz19_1:=cellS55_1 HGz19;have hcz19_2:=cellS55_2 HGz19;have hfz19_1:=blk_frozen HGz19 1;have hfz19_2:=blk_frozen HGz19 2;clear HGz19 hgz19
     go_wp2
     repeat (go_quiet (fail); try go_wp2)
     go_ret; exact ⟨er_, pS55_ HI0.out, pT55_ HB.out, pK_ HK.out⟩

/-! ### spec_l01Cur_wide: function 14 -/
def spec_l01Cur_wide.f (s0_0 : List Int) (s0_1 s0_2 a1 : Int) : Option (Int × Int × Int) := (spec_l01Cur_pick.f s0_0 s0_1 s0_2 256).bind fun bt104 => ((spec_l01Cur_pick.f s0_0 bt104.2.1 bt104.2.2 256).bind fun bt107 => ((spec_l01Cur_pick.f s0_0 bt107.2.1 bt107.2.2 256).bind fun bt110 => (if a1 = 0 then (none) else (some (Int.tmod (wrap64 ((wrap64 ((wrap64 (65536 * bt104.1)) + (wrap64 (256 * bt107.1)))) + bt110.1)) a1, bt110.2.1, bt110.2.2)))))
set_option maxHeartbeats 8000000 in
set_option maxRecDepth 100000 in
theorem spec_l01Cur_wide.calls (g : Nat) (s0_0 : List Int) (s0_1 s0_2 a1 r1 r2 r3 : Int) (w0 w : World) (hI : IsS55 w0 w g s0_0 s0_1 s0_2) (hB : Below w0.heap.size w0 w) (h : spec_l01Cur_wide.f s0_0 s0_1 s0_2 a1 = some (r1, r2, r3)) :
  Calls Try.prog 14 #[.pointer (some ⟨g, 0, none⟩), I L a1] w fun e w' => e = .returned (I L r1) ∧ IsS55 w0 w' g s0_0 r2 r3 ∧ Below w0.heap.size w0 w' ∧ KeepBut w w' g none := by
 have HI0 := D hI
 have HK := D (KeepBut.refl w g none)
 have HL := D hB.size
 clear hI
 have HW0 := D hB.size
 have HB := D hB
 clear hB
 have H:((spec_l01Cur_pick.f s0_0 s0_1 s0_2 256).bind fun bt104=>((spec_l01Cur_pick.f s0_0 bt104.2.1 bt104.2.2 256).bind fun bt107=>((spec_l01Cur_pick.f s0_0 bt107.2.1 bt107.2.2 256).bind fun bt110=>(if a1=0 then (none) else (some (Int.tmod (wrap64 ((wrap64 ((wrap64 (65536 * bt104.1)) + (wrap64 (256 * bt107.1)))) + bt110.1)) a1,bt110.2.1,bt110.2.2))))))=some (r1,r2,r3):=h
 clear h
 obtain ⟨⟨t104, t105, t106⟩, A30, H⟩ := bs_.mp H
 (try dsimp only at H)
 have A3 := D A30
 clear A30
 obtain ⟨⟨t107, t108, t109⟩, A40, H⟩ := bs_.mp H
 (try dsimp only at H)
 have A4 := D A40
 clear A40
 obtain ⟨⟨t110, t111, t112⟩, A50, H⟩ := bs_.mp H
 (try dsimp only at H)
 have A5 := D A50
 clear A50
 by_cases c6 : a1 = 0
 ·rw [if_pos c6] at H
  exact absurd H (by simp)
 ·rw [if_neg c6] at H
  have c6b0:(a1 == 0)=false:=beq_eq_false_iff_ne.mpr c6;have c6b1:(a1 != 0)=true:=bne_iff_ne.mpr c6;simp only [Option.some.injEq,Prod.mk.injEq] at H;obtain ⟨rfl,rfl,rfl⟩:=H;go_enter Try.func14,Try.ntmps14
  go_wp2_with (first|((with_reducible refine gate_callee (f:=12) rfl ?_);refine goesL_ (some 6) rfl rfl Try.func12 (by kernel_rfl) rfl #[.pointer (some ⟨g,0,none⟩),I L 256] rfl Z15 ?_;(with_reducible refine (spec_l01Cur_pick.calls g s0_0 s0_1 s0_2 256 t104 t105 t106 w0 _ ?side1 ?side2 A3.out).mono ?_);(case side1=>exact pS55_ HI0.out);(case side2=>exact pT55_ HB.out);rintro e w7 ⟨rfl,hi,hb,hk⟩;refine ⟨_,rfl,?_⟩;have n_:=an_ (KeepBut.trans (pK_ HK.out) hk (.inl rfl))<|an_ (hb)<|D (hi);clear HK HB HI0;obtain ⟨HK,HB,HI0⟩:=n_;(try clear hb);(try clear hk);(try clear hi))|((with_reducible refine gate_callee (f:=12) rfl ?_);refine goesL_ (some 9) rfl rfl Try.func12 (by kernel_rfl) rfl #[.pointer (some ⟨g,0,none⟩),I L 256] rfl Z15 ?_;(with_reducible refine (spec_l01Cur_pick.calls g s0_0 t105 t106 256 t107 t108 t109 w0 _ ?side1 ?side2 A4.out).mono ?_);(case side1=>exact pS55_ HI0.out);(case side2=>exact pT55_ HB.out);rintro e w8 ⟨rfl,hi,hb,hk⟩;refine ⟨_,rfl,?_⟩;have n_:=an_ (KeepBut.trans (pK_ HK.out) hk (.inl rfl))<|an_ (hb)<|D (hi);clear HK HB HI0;obtain ⟨HK,HB,HI0⟩:=n_;(try clear hb);(try clear hk);(try clear hi))|((with_reducible refine gate_callee (f:=12) rfl ?_);refine goesL_ (some 13) rfl rfl Try.func12 (by kernel_rfl) rfl #[.pointer (some ⟨g,0,none⟩),I L 256] rfl Z15 ?_;(with_reducible refine (spec_l01Cur_pick.calls g s0_0 t108 t109 256 t110 t111 t112 w0 _ ?side1 ?side2 A5.out).mono ?_);(case side1=>exact pS55_ HI0.out);(case side2=>exact pT55_ HB.out);rintro e w9 ⟨rfl,hi,hb,hk⟩;refine ⟨_,rfl,?_⟩;have n_:=an_ (KeepBut.trans (pK_ HK.out) hk (.inl rfl))<|an_ (hb)<|D (hi);clear HK HB HI0;obtain ⟨HK,HB,HI0⟩:=n_;(try clear hb);(try clear hk);(try clear hi)))
  go_ret; exact ⟨er_, pS55_ HI0.out, pT55_ HB.out, pK_ HK.out⟩

/-! ### spec_l01Cur_prof: function 27 -/
def spec_l01Cur_prof.f (s0_0 : List Int) (s0_1 s0_2 : Int) : Option (Int × Int × Int × Int × Int × Int × Int × Int) := (some (([5, 60, 1001] : List Int) : List Int)).bind fun y114 => ((spec_l01Cur_pick.f s0_0 s0_1 s0_2 3).bind fun bt117 => (if 0 ≤ bt117.1 then (if bt117.1 < (y114.length : Int) then ((spec_l01Cur_wide.f s0_0 bt117.2.1 bt117.2.2 (rd y114 bt117.1)).bind fun bt121 => ((spec_l01Cur_wide.f s0_0 bt121.2.1 bt121.2.2 (rd y114 bt117.1)).bind fun bt124 => ((spec_l01Cur_wide.f s0_0 bt124.2.1 bt124.2.2 (rd y114 bt117.1)).bind fun bt127 => ((spec_l01Cur_wide.f s0_0 bt127.2.1 bt127.2.2 (mn (rd y114 bt117.1) 60)).bind fun bt130 => ((spec_l01Cur_wide.f s0_0 bt130.2.1 bt130.2.2 (mn (rd y114 bt117.1) 60)).bind fun bt133 => ((spec_l01Cur_wide.f s0_0 bt133.2.1 bt133.2.2 (mn (rd y114 bt117.1) 60)).bind fun bt136 => (some (bt121.1, bt124.1, bt127.1, bt130.1, bt133.1, bt136.1, bt136.2.1, bt136.2.2)))))))) else (none)) else (none)))
set_option maxHeartbeats 8000000 in
set_option maxRecDepth 100000 in
theorem spec_l01Cur_prof.calls (g : Nat) (s0_0 : List Int) (s0_1 s0_2 r1 r2 r3 r4 r5 r6 r7 r8 : Int) (w0 w : World) (hI : IsS55 w0 w g s0_0 s0_1 s0_2) (hB : Below w0.heap.size w0 w) (h : spec_l01Cur_prof.f s0_0 s0_1 s0_2 = some (r1, r2, r3, r4, r5, r6, r7, r8)) :
  Calls Try.prog 27 #[.pointer (some ⟨g,0,none⟩)] w fun e w'=>e=.returned (.agg #[I L r1,I L r2,I L r3,I L r4,I L r5,I L r6])∧IsS55 w0 w' g s0_0 r7 r8∧Below w0.heap.size w0 w'∧KeepBut w w' g none:=by
 have hu43 := Try.underlying43
 have hu29 := Try.underlying29
 have HI0 := D hI
 have HK := D (KeepBut.refl w g none)
 have HL := D hB.size
 clear hI
 have HW0 := D hB.size
 have HB := D hB
 clear hB
 have H:((some (([5,60,1001]:List Int):List Int)).bind fun y114=>((spec_l01Cur_pick.f s0_0 s0_1 s0_2 3).bind fun bt117=>(if 0≤bt117.1 then (if bt117.1 < (y114.length:Int) then ((spec_l01Cur_wide.f s0_0 bt117.2.1 bt117.2.2 (rd y114 bt117.1)).bind fun bt121=>((spec_l01Cur_wide.f s0_0 bt121.2.1 bt121.2.2 (rd y114 bt117.1)).bind fun bt124=>((spec_l01Cur_wide.f s0_0 bt124.2.1 bt124.2.2 (rd y114 bt117.1)).bind fun bt127=>((spec_l01Cur_wide.f s0_0 bt127.2.1 bt127.2.2 (mn (rd y114 bt117.1) 60)).bind fun bt130=>((spec_l01Cur_wide.f s0_0 bt130.2.1 bt130.2.2 (mn (rd y114 bt117.1) 60)).bind fun bt133=>((spec_l01Cur_wide.f s0_0 bt133.2.1 bt133.2.2 (mn (rd y114 bt117.1) 60)).bind fun bt136=>(some (bt121.1,bt124.1,bt127.1,bt130.1,bt133.1,bt136.1,bt136.2.1,bt136.2.2)))))))) else (none)) else (none))))=some (r1,r2,r3,r4,r5,r6,r7,r8):=h
 clear h
 obtain ⟨y114, hy114⟩ : ∃ y_ : List Int, y_ = (([5, 60, 1001] : List Int)) := ⟨_, rfl⟩
 replace H:((spec_l01Cur_pick.f s0_0 s0_1 s0_2 3).bind fun bt117=>(if 0≤bt117.1 then (if bt117.1 < (y114.length:Int) then ((spec_l01Cur_wide.f s0_0 bt117.2.1 bt117.2.2 (rd y114 bt117.1)).bind fun bt121=>((spec_l01Cur_wide.f s0_0 bt121.2.1 bt121.2.2 (rd y114 bt117.1)).bind fun bt124=>((spec_l01Cur_wide.f s0_0 bt124.2.1 bt124.2.2 (rd y114 bt117.1)).bind fun bt127=>((spec_l01Cur_wide.f s0_0 bt127.2.1 bt127.2.2 (mn (rd y114 bt117.1) 60)).bind fun bt130=>((spec_l01Cur_wide.f s0_0 bt130.2.1 bt130.2.2 (mn (rd y114 bt117.1) 60)).bind fun bt133=>((spec_l01Cur_wide.f s0_0 bt133.2.1 bt133.2.2 (mn (rd y114 bt117.1) 60)).bind fun bt136=>(some (bt121.1,bt124.1,bt127.1,bt130.1,bt133.1,bt136.1,bt136.2.1,bt136.2.2)))))))) else (none)) else (none)))=some (r1,r2,r3,r4,r5,r6,r7,r8):=by first|(rw [hy114];with_reducible exact H)|(have H2_:=(Option.bind_some _ _).symm.trans H;rw [hy114];with_reducible exact H2_)|(have H2_:=(Option.bind_some _ _).symm.trans H;with_reducible exact H2_)|with_reducible exact H|(rw [hy114];exact H)|exact H
 have Ny114 := D hy114
 clear hy114
 obtain ⟨⟨t117, t118, t119⟩, A20, H⟩ := bs_.mp H
 (try dsimp only at H)
 have A2 := D A20
 clear A20
 by_cases c3 : 0 ≤ t117
 ·rw [if_pos c3] at H
  have c3b0 : decide (0 ≤ t117) = true := decide_eq_true c3; clear c3
  by_cases c4 : t117 < (y114.length : Int)
  ·rw [if_pos c4] at H
   have c4b0:decide (t117 < (y114.length:Int))=true:=decide_eq_true c4;clear c4;obtain ⟨⟨t121,t122,t123⟩,A50,H⟩:=bs_.mp H;(try dsimp only at H);have A5:=D A50;clear A50;obtain ⟨⟨t124,t125,t126⟩,A60,H⟩:=bs_.mp H;(try dsimp only at H);have A6:=D A60;clear A60;obtain ⟨⟨t127,t128,t129⟩,A70,H⟩:=bs_.mp H;(try dsimp only at H);have A7:=D A70;clear A70;obtain ⟨ji8,hji8⟩:∃ j_:Int,(mn (rd y114 t117) 60)=j_:=⟨_,rfl⟩
   replace H:((spec_l01Cur_wide.f s0_0 t128 t129 (ji8)).bind fun bt130=>((spec_l01Cur_wide.f s0_0 bt130.2.1 bt130.2.2 (ji8)).bind fun bt133=>((spec_l01Cur_wide.f s0_0 bt133.2.1 bt133.2.2 (ji8)).bind fun bt136=>(some (t121,t124,t127,bt130.1,bt133.1,bt136.1,bt136.2.1,bt136.2.2)))))=some (r1,r2,r3,r4,r5,r6,r7,r8):=by first|(rw [hji8] at H;exact H)|(simp only [hji8] at H ⊢;exact H)
   (try rw [hji8] at A2);(try rw [hji8] at A5);(try rw [hji8] at A6);(try rw [hji8] at A7);(try (have hji8h:ji8≤60:=by (rw [← hji8];unfold mn;(repeat' split) <;> omega)));(try (have hji8g:ji8≤64:=by omega));have hji8_:(if 60 < (rd y114 t117) then 60 else (rd y114 t117))=ji8:=hji8;obtain ⟨⟨t130,t131,t132⟩,A90,H⟩:=bs_.mp H;(try dsimp only at H);have A9:=D A90;clear A90;obtain ⟨⟨t133,t134,t135⟩,A100,H⟩:=bs_.mp H;(try dsimp only at H);have A10:=D A100;clear A100;obtain ⟨⟨t136,t137,t138⟩,A110,H⟩:=bs_.mp H;(try dsimp only at H);have A11:=D A110;clear A110;simp only [Option.some.injEq,Prod.mk.injEq] at H;obtain ⟨rfl,rfl,rfl,rfl,rfl,rfl,rfl,rfl⟩:=H;go_enter Try.func27,Try.ntmps27
   go_wp2_with (first|((with_reducible refine gate_dst (N:=2) rfl ?_);refine bx_ (N:=2) (cs:=#[I L 0,I L 0,I L 0,I L 0,I L 0,I L 0]) (t:=43) ?_;intro gb113 hg w12 hbox hb;have n_:=an_ (IsS55.below (pU55_ HI0.out) hb)<|an_ (KeepBut.trans (pK_ HK.out) (KeepBut.of_below hb g none) (.inl rfl))<|an_ (below_step (pT55_ HB.out) hb)<|an_ (hbox)<|an_ ((by rw [hg];exact (keep_size (w:=w) (g:=g) (row:=none) (pK_ HK.out)):w.heap.size≤gb113))<|an_ ((Nat.le_trans HW0.out (by rw [hg];exact (keep_size (w:=w) (g:=g) (row:=none) (pK_ HK.out)):w.heap.size≤gb113):w0.heap.size≤gb113))<|an_ ((by rw [hg];exact Nat.ne_of_lt (IsS55.lt (show IsS55 w0 _ g s0_0 s0_1 s0_2 from pS55_ HI0.out)):g≠gb113))<|D (by rw [hg];exact Nat.ne_of_gt (IsS55.lt (show IsS55 w0 _ g s0_0 s0_1 s0_2 from pS55_ HI0.out)):gb113≠g);clear HI0 HK HB;obtain ⟨HI0,HK,HB,BK113,GW113,GE113,NB0_113,NB113_0⟩:=n_;clear hb hbox hg)|((with_reducible refine gate_dst (N:=4) rfl ?_);refine Kd.R_lit (Kd.int .i64) _ 3 ?hg (N:=4) ?hd (xs:=([5,60,1001]:List Int)) (inner:=[I L 5,I L 60,I L 1001]) (ok:=fun _=>True) (okp:=fun _=>True) ?hr ?hp (fun _ hk=>hk) trivial (Below.refl _ _) (Nat.le_refl _) (by simp) ?_;(case hd=>rfl);(case hg=>rfl);(case hr=>first|(go_simp;done)|(go_simp;rfl));(case hp=>exact (Reps.one (show Kd.M (Kd.int .i64) _ _ _ 5 [I L 5] from rfl) (Reps.one (show Kd.M (Kd.int .i64) _ _ _ 60 [I L 60] from rfl) (Reps.one (show Kd.M (Kd.int .i64) _ _ _ 1001 [I L 1001] from rfl) (Reps.none _ _)))));intro v115 w13 ho14 hb hg_ hnew_;clear hg_ hnew_;(first|rw [← Ny114.out] at ho14|(simp only [Int.reduceToNat] at ho14;rw [← Ny114.out] at ho14));have n_:=an_ (Kd.R_lower ho14 (keep_size (w:=w) (g:=g) (row:=none) (pK_ HK.out)))<|an_ (IsS55.below (pU55_ HI0.out) hb)<|an_ (blk_below (pk_ BK113.out) hb)<|an_ (KeepBut.trans (pK_ HK.out) (KeepBut.of_below hb g none) (.inl rfl))<|D (below_step (pT55_ HB.out) hb);clear HI0 BK113 HK HB;obtain ⟨HO116,HI0,BK113,HK,HB⟩:=n_;clear hb ho14)|((with_reducible refine gate_callee (f:=12) rfl ?_);refine goesL_ (some 6) rfl rfl Try.func12 (by kernel_rfl) rfl #[.pointer (some ⟨g,0,none⟩),I L 3] rfl Z15 ?_;(with_reducible refine (spec_l01Cur_pick.calls g s0_0 s0_1 s0_2 3 t117 t118 t119 w0 _ ?side1 ?side2 A2.out).mono ?_);(case side1=>exact pS55_ HI0.out);(case side2=>exact pT55_ HB.out);rintro e w15 ⟨rfl,hi,hb,hk⟩;refine ⟨_,rfl,?_⟩;have n_:=an_ (KeepBut.blk hk (pk_ BK113.out) NB113_0.out (by simp))<|an_ (Kd.R_mono (Kd.R_keep (IsS55.apart (show IsS55 w0 _ g s0_0 s0_1 s0_2 from pS55_ HI0.out) (pR_ HO116.out) (by decide)) hk (fun _ h=>h.2)) (fun _ h=>h.1))<|an_ (KeepBut.trans (pK_ HK.out) hk (.inl rfl))<|an_ (hb)<|D (hi);clear BK113 HO116 HK HB HI0;obtain ⟨BK113,HO116,HK,HB,HI0⟩:=n_;(try clear hb);(try clear hk);(try clear hi);obtain ⟨Ao16,co16,eo16⟩:=Kd.R_slice HO116.out;subst eo16;have p120:0≤(t117:Int):=od_ Z21;have q120:t117 < (y114.length:Int):=od_ Z21;obtain ⟨ad120,e120,hx120_0⟩:=Kd.at_int (Kd.R_reads' HO116.out).2.2 t117 p120 q120;cases e120;replace p120:=eq_true p120;replace q120:=eq_true q120)|((with_reducible refine gate_callee (f:=14) rfl ?_);refine goesL_ (some 11) rfl rfl Try.func14 (by kernel_rfl) rfl #[.pointer (some ⟨g,0,none⟩),I L (rd y114 t117)] rfl Z15 ?_;(with_reducible refine (spec_l01Cur_wide.calls g s0_0 t118 t119 (rd y114 t117) t121 t122 t123 w0 _ ?side1 ?side2 A5.out).mono ?_);(case side1=>exact pS55_ HI0.out);(case side2=>exact pT55_ HB.out);rintro e w17 ⟨rfl,hi,hb,hk⟩;refine ⟨_,rfl,?_⟩;have n_:=an_ (KeepBut.blk hk (pk_ BK113.out) NB113_0.out (by simp))<|an_ (Kd.R_mono (Kd.R_keep (IsS55.apart (show IsS55 w0 _ g s0_0 t118 t119 from pS55_ HI0.out) (pR_ HO116.out) (by decide)) hk (fun _ h=>h.2)) (fun _ h=>h.1))<|an_ (KeepBut.trans (pK_ HK.out) hk (.inl rfl))<|an_ (hb)<|D (hi);clear BK113 HO116 HK HB HI0;obtain ⟨BK113,HO116,HK,HB,HI0⟩:=n_;(try clear hb);(try clear hk);(try clear hi))|((with_reducible refine gate_callee (f:=14) rfl ?_);refine goesL_ (some 14) rfl rfl Try.func14 (by kernel_rfl) rfl #[.pointer (some ⟨g,0,none⟩),I L (rd y114 t117)] rfl Z15 ?_;(with_reducible refine (spec_l01Cur_wide.calls g s0_0 t122 t123 (rd y114 t117) t124 t125 t126 w0 _ ?side1 ?side2 A6.out).mono ?_);(case side1=>exact pS55_ HI0.out);(case side2=>exact pT55_ HB.out);rintro e w18 ⟨rfl,hi,hb,hk⟩;refine ⟨_,rfl,?_⟩;have n_:=an_ (KeepBut.blk hk (pk_ BK113.out) NB113_0.out (by simp))<|an_ (Kd.R_mono (Kd.R_keep (IsS55.apart (show IsS55 w0 _ g s0_0 t122 t123 from pS55_ HI0.out) (pR_ HO116.out) (by decide)) hk (fun _ h=>h.2)) (fun _ h=>h.1))<|an_ (KeepBut.trans (pK_ HK.out) hk (.inl rfl))<|an_ (hb)<|D (hi);clear BK113 HO116 HK HB HI0;obtain ⟨BK113,HO116,HK,HB,HI0⟩:=n_;(try clear hb);(try clear hk);(try clear hi))|((with_reducible refine gate_callee (f:=14) rfl ?_);refine goesL_ (some 17) rfl rfl Try.func14 (by kernel_rfl) rfl #[.pointer (some ⟨g,0,none⟩),I L (rd y114 t117)] rfl Z15 ?_;(with_reducible refine (spec_l01Cur_wide.calls g s0_0 t125 t126 (rd y114 t117) t127 t128 t129 w0 _ ?side1 ?side2 A7.out).mono ?_);(case side1=>exact pS55_ HI0.out);(case side2=>exact pT55_ HB.out);rintro e w19 ⟨rfl,hi,hb,hk⟩;refine ⟨_,rfl,?_⟩;have n_:=an_ (KeepBut.blk hk (pk_ BK113.out) NB113_0.out (by simp))<|an_ (Kd.R_mono (Kd.R_keep (IsS55.apart (show IsS55 w0 _ g s0_0 t125 t126 from pS55_ HI0.out) (pR_ HO116.out) (by decide)) hk (fun _ h=>h.2)) (fun _ h=>h.1))<|an_ (KeepBut.trans (pK_ HK.out) hk (.inl rfl))<|an_ (hb)<|D (hi);clear BK113 HO116 HK HB HI0;obtain ⟨BK113,HO116,HK,HB,HI0⟩:=n_;(try clear hb);(try clear hk);(try clear hi))|((with_reducible refine gate_callee (f:=14) rfl ?_);refine goesL_ (some 22) rfl rfl Try.func14 (by kernel_rfl) rfl #[.pointer (some ⟨g,0,none⟩),I L ji8] rfl Z13 ?_;(with_reducible refine (spec_l01Cur_wide.calls g s0_0 t128 t129 ji8 t130 t131 t132 w0 _ ?side1 ?side2 A9.out).mono ?_);(case side1=>exact pS55_ HI0.out);(case side2=>exact pT55_ HB.out);rintro e w20 ⟨rfl,hi,hb,hk⟩;refine ⟨_,rfl,?_⟩;have n_:=an_ (KeepBut.blk hk (pk_ BK113.out) NB113_0.out (by simp))<|an_ (Kd.R_mono (Kd.R_keep (IsS55.apart (show IsS55 w0 _ g s0_0 t128 t129 from pS55_ HI0.out) (pR_ HO116.out) (by decide)) hk (fun _ h=>h.2)) (fun _ h=>h.1))<|an_ (KeepBut.trans (pK_ HK.out) hk (.inl rfl))<|an_ (hb)<|D (hi);clear BK113 HO116 HK HB HI0;obtain ⟨BK113,HO116,HK,HB,HI0⟩:=n_;(try clear hb);(try clear hk);(try clear hi))|((with_reducible refine gate_callee (f:=14) rfl ?_);refine goesL_ (some 26) rfl rfl Try.func14 (by kernel_rfl) rfl #[.pointer (some ⟨g,0,none⟩),I L ji8] rfl Z13 ?_;(with_reducible refine (spec_l01Cur_wide.calls g s0_0 t131 t132 ji8 t133 t134 t135 w0 _ ?side1 ?side2 A10.out).mono ?_);(case side1=>exact pS55_ HI0.out);(case side2=>exact pT55_ HB.out);rintro e w21 ⟨rfl,hi,hb,hk⟩;refine ⟨_,rfl,?_⟩;have n_:=an_ (KeepBut.blk hk (pk_ BK113.out) NB113_0.out (by simp))<|an_ (Kd.R_mono (Kd.R_keep (IsS55.apart (show IsS55 w0 _ g s0_0 t131 t132 from pS55_ HI0.out) (pR_ HO116.out) (by decide)) hk (fun _ h=>h.2)) (fun _ h=>h.1))<|an_ (KeepBut.trans (pK_ HK.out) hk (.inl rfl))<|an_ (hb)<|D (hi);clear BK113 HO116 HK HB HI0;obtain ⟨BK113,HO116,HK,HB,HI0⟩:=n_;(try clear hb);(try clear hk);(try clear hi))|((with_reducible refine gate_callee (f:=14) rfl ?_);refine goesL_ (some 30) rfl rfl Try.func14 (by kernel_rfl) rfl #[.pointer (some ⟨g,0,none⟩),I L ji8] rfl Z13 ?_;(with_reducible refine (spec_l01Cur_wide.calls g s0_0 t134 t135 ji8 t136 t137 t138 w0 _ ?side1 ?side2 A11.out).mono ?_);(case side1=>exact pS55_ HI0.out);(case side2=>exact pT55_ HB.out);rintro e w22 ⟨rfl,hi,hb,hk⟩;refine ⟨_,rfl,?_⟩;have n_:=an_ (KeepBut.blk hk (pk_ BK113.out) NB113_0.out (by simp))<|an_ (Kd.R_mono (Kd.R_keep (IsS55.apart (show IsS55 w0 _ g s0_0 t134 t135 from pS55_ HI0.out) (pR_ HO116.out) (by decide)) hk (fun _ h=>h.2)) (fun _ h=>h.1))<|an_ (KeepBut.trans (pK_ HK.out) hk (.inl rfl))<|an_ (hb)<|D (hi);clear BK113 HO116 HK HB HI0;obtain ⟨BK113,HO116,HK,HB,HI0⟩:=n_;(try clear hb);(try clear hk);(try clear hi);(try have:=NB113_0.out);(try have:=NB0_113.out);have hcz24_0:=cells6 BK113.out))
   refine bodyPost_ret (results_cell_row rfl _ _ gb113 43 #[I L t121,I L t124,I L t127,I L t130,I L t133,I L t136] (0,0) _ rfl (by exact pP_ BK113.out) Try.underlying43 rfl (by kernel_rfl)) rfl ?_;exact ⟨by first|rfl|(simp [errW_none,errW_some] <;> rfl)|(simp only [← hji8];first|rfl|(simp [errW_none,errW_some] <;> rfl))|(simp [*,errW_none,errW_some] <;> rfl),pS55_ HI0.out,pT55_ HB.out,pK_ HK.out⟩
  ·rw [if_neg c4] at H
   exact absurd H (by simp)
 ·rw [if_neg c3] at H
  exact absurd H (by simp)

/-! ### spec_l01Cur_profs: function 9 -/
def spec_l01Cur_profs.l0 : Nat → List (S43) → Int → List Int → Int → Int → Option ((List (S43)) × Int × Int)
 | 0, _, _, _, _, _ => none
 | k + 1,x3,x4,x1000,x1001,x1002=>if x4 < 7 then ((spec_l01Cur_prof.f x1000 x1001 x1002).bind fun bt142=>(if x3.length < 2932031007402 then (spec_l01Cur_profs.l0 k (x3 ++ [(⟨(⟨bt142.1,bt142.2.1,bt142.2.2.1⟩:S29),(⟨bt142.2.2.2.1,bt142.2.2.2.2.1,bt142.2.2.2.2.2.1⟩:S29)⟩:S43)]) (wrap64 (x4 + 1)) x1000 bt142.2.2.2.2.2.2.1 bt142.2.2.2.2.2.2.2) else (none))) else (some (x3,x1001,x1002))
def spec_l01Cur_profs.f (k : Nat) (s0_0 : List Int) (s0_1 s0_2 : Int) : Option ((List (S43)) × Int × Int) := spec_l01Cur_profs.l0 k (([] : List (S43))) 0 s0_0 s0_1 s0_2
set_option maxHeartbeats 8000000 in
set_option maxRecDepth 100000 in
theorem spec_l01Cur_profs.calls (k g : Nat) (s0_0 : List Int) (s0_1 s0_2 : Int) (r1 : List (S43)) (r2 r3 : Int) (w0 w : World) (hI : IsS55 w0 w g s0_0 s0_1 s0_2) (hB : Below w0.heap.size w0 w) (h : spec_l01Cur_profs.f k s0_0 s0_1 s0_2 = some (r1, r2, r3)) :
  Calls Try.prog 9 #[.pointer (some ⟨g,0,none⟩)] w fun e w'=>∃ v0_:Value,e=.returned (v0_)∧Kd.R k43 43 w' w.heap.size (fun _=>True) v0_ r1∧IsS55 w0 w' g s0_0 r2 r3∧Below w0.heap.size w0 w'∧KeepBut w w' g none:=by
 have HI0 := D hI
 have HK := D (KeepBut.refl w g none)
 have HL := D hB.size
 clear hI
 have HW0 := D hB.size
 have HB := D hB
 clear hB
 have H : (spec_l01Cur_profs.l0 k (([] : List (S43))) 0 s0_0 s0_1 s0_2) = some (r1, r2, r3) := h
 clear h
 obtain ⟨y139, hy139⟩ : ∃ y_ : List (S43), y_ = (([] : List (S43))) := ⟨_, rfl⟩
 replace H:(spec_l01Cur_profs.l0 k y139 0 s0_0 s0_1 s0_2)=some (r1,r2,r3):=by first|(rw [hy139];with_reducible exact H)|(have H2_:=(Option.bind_some _ _).symm.trans H;rw [hy139];with_reducible exact H2_)|(have H2_:=(Option.bind_some _ _).symm.trans H;with_reducible exact H2_)|with_reducible exact H|(rw [hy139];exact H)|exact H
 have Ny139 := D hy139
 clear hy139
 have H' := D H
 clear H
 go_enter Try.func9, Try.ntmps9
 go_wp2_with (first|((with_reducible refine gate_dst (N:=5) rfl ?_);refine Kd.R_lit k43 _ 43 ?hg (N:=5) ?hd (xs:=([]:List (S43))) (inner:=[]) (ok:=fun _=>True) (okp:=fun _=>True) ?hr ?hp (fun _ hk=>hk) trivial (Below.refl _ _) (Nat.le_refl _) (by simp) ?_;(case hd=>rfl);(case hg=>rfl);(case hr=>first|(go_simp;done)|(go_simp;rfl));(case hp=>exact (Reps.none _ _));intro v140 w2 ho3 hb hg_ hnew_;clear hg_ hnew_;(first|rw [← Ny139.out] at ho3|(simp only [Int.reduceToNat] at ho3;rw [← Ny139.out] at ho3));have n_:=an_ (Kd.R_lower ho3 (keep_size (w:=w) (g:=g) (row:=none) (pK_ HK.out)))<|an_ (IsS55.below (pU55_ HI0.out) hb)<|an_ (KeepBut.trans (pK_ HK.out) (KeepBut.of_below hb g none) (.inl rfl))<|D (below_step (pT55_ HB.out) hb);clear HI0 HK HB;obtain ⟨HO141,HI0,HK,HB⟩:=n_;clear hb ho3))
 go_loopg [3,4] k (fun kq v3 v4 w'=>∃ (x3_1:List (S43)) (x4_1:Int) (x1001_1:Int) (x1002_1:Int),v4=I L x4_1∧Aside0 (spec_l01Cur_profs.l0 kq x3_1 x4_1 s0_0 x1001_1 x1002_1=some (r1,r2,r3))∧Aside0 (kq≤k)∧Aside0 (Kd.R k43 43 w' w.heap.size (fun _=>True) v3 x3_1)∧Aside0 (IsS55 w0 w' g s0_0 x1001_1 x1002_1)∧Aside0 (KeepBut w w' g none)∧Aside0 (Below w0.heap.size w0 w'))
 case atStart => exact ⟨(y139), (0), (s0_1), (s0_2), Z22, H', ⟨Nat.le_refl _⟩, ⟨pR_ HO141.out⟩, ⟨pS55_ HI0.out⟩, ⟨pK_ HK.out⟩, ⟨pT55_ HB.out⟩⟩
 case round =>
  clear H'
  try clear p2
  obtain ⟨x3_1, x4_1, x1001_1, x1002_1, rfl, HA, HK1, HO_3, HI0, HK, HB⟩ := hrel
  cases gk with
  | zero => exact absurd HA.out (by simp [spec_l01Cur_profs.l0])
  | succ k1 =>
   have H := HA.out; clear HA; simp only [spec_l01Cur_profs.l0] at H
   by_cases c4 : x4_1 < 7
   ·rw [if_pos c4] at H
    have c4b0:decide (x4_1 < 7)=true:=decide_eq_true c4;clear c4;obtain ⟨⟨t142,t143,t144,t145,t146,t147,t148,t149⟩,A50,H⟩:=bs_.mp H;(try dsimp only at H);have A5:=D A50;clear A50
    by_cases c6 : x3_1.length < 2932031007402
    ·rw [if_pos c6] at H
     have LMc6 := D c6; clear c6; obtain ⟨y150, hy150⟩ : ∃ y_ : List (S43), y_ = (x3_1 ++ [(⟨(⟨t142, t143, t144⟩ : S29), (⟨t145, t146, t147⟩ : S29)⟩ : S43)]) := ⟨_, rfl⟩
     replace H:(spec_l01Cur_profs.l0 k1 y150 (wrap64 (x4_1 + 1)) s0_0 t148 t149)=some (r1,r2,r3):=by first|(rw [hy150];with_reducible exact H)|(have H2_:=(Option.bind_some _ _).symm.trans H;rw [hy150];with_reducible exact H2_)|(have H2_:=(Option.bind_some _ _).symm.trans H;with_reducible exact H2_)|with_reducible exact H|(rw [hy150];exact H)|exact H
     have Ny150 := D hy150; clear hy150; have H' := D H; clear H
     go_wp2_with (first|((with_reducible refine gate_callee (f:=27) rfl ?_);refine goesL_ (some 12) rfl rfl Try.func27 (by kernel_rfl) rfl #[.pointer (some ⟨g,0,none⟩)] rfl Z15 ?_;(with_reducible refine (spec_l01Cur_prof.calls g s0_0 x1001_1 x1002_1 t142 t143 t144 t145 t146 t147 t148 t149 w0 _ ?side1 ?side2 A5.out).mono ?_);(case side1=>exact pS55_ HI0.out);(case side2=>exact pT55_ HB.out);rintro e w7 ⟨rfl,hi,hb,hk⟩;refine ⟨_,rfl,?_⟩;have n_:=an_ (Kd.R_mono (Kd.R_keep (IsS55.apart (show IsS55 w0 _ g s0_0 x1001_1 x1002_1 from pS55_ HI0.out) (pR_ HO_3.out) (by decide)) hk (fun _ h=>h.2)) (fun _ h=>h.1))<|an_ (KeepBut.trans (pK_ HK.out) hk (.inl rfl))<|an_ (hb)<|D (hi);clear HO_3 HK HB HI0;obtain ⟨HO_3,HK,HB,HI0⟩:=n_;(try clear hb);(try clear hk);(try clear hi))|((with_reducible refine gate_builtin (b:=.append) (xs:=#[.tmp 10,.tmp 13]) rfl ?_);at_builtin;refine Kd.R_append k43 w.heap.size rfl (.tmp 10) (.tmp 13) 24 43 (.agg #[(I L 0),(I L 0),(I L 0),(I L 0),(I L 0),(I L 0)]) 48 rfl Try.underlying24 info43 rfl (by decide) (by omega) u3 x3_1 (⟨(⟨t142,t143,t144⟩:S29),(⟨t145,t146,t147⟩:S29)⟩:S43) [I L t142,I L t143,I L t144,I L t145,I L t146,I L t147] (fun _=>True) (fun _=>False) rfl rfl ?aP (fun _ hk=>hk.elim) ?aF ?aO (Below.refl _ _) ?aS ?aL ?_;(case aP=>exact k43_mkM _ _ _ (⟨(⟨t142,t143,t144⟩:S29),(⟨t145,t146,t147⟩:S29)⟩:S43));(case aF=>exact (fun _ _=>trivial));(case aO=>exact (pR_ HO_3.out));(case aS=>exact (keep_size (w:=w) (g:=g) (row:=none) (pK_ HK.out)));(case aL=>have:=LMc6.out;omega);intro v151 w8 ho hb hg hat;rw [← Ny150.out] at ho;have n_:=an_ (IsS55.grown (pU55_ HI0.out) hg (IsS55.own_ne HI0.out HO_3.out (by decide)))<|an_ (below_weaken (pT55_ HB.out) HL.out hb)<|an_ (KeepBut.trans (pK_ HK.out) (KeepBut.of_grown hg g) (Kd.R_base2 HO_3.out))<|D (ho);clear HI0 HB HK HO_3;obtain ⟨HI0,HB,HK,HO152⟩:=n_;clear ho hb hg hat))
     go_roundg k1
     case measure => have := HK1.out; omega
     case rel => exact ⟨(y150), (wrap64 (x4_1 + 1)), (t148), (t149), Z22, H', ⟨by have := HK1.out; omega⟩, ⟨pR_ HO152.out⟩, ⟨pS55_ HI0.out⟩, ⟨pK_ HK.out⟩, ⟨pT55_ HB.out⟩⟩
    ·rw [if_neg c6] at H
     exact absurd H (by simp)
   ·rw [if_neg c4] at H
    have c4b0 : decide (x4_1 < 7) = false := decide_eq_false c4; clear c4; simp only [Option.some.injEq, Prod.mk.injEq] at H; obtain ⟨rfl, rfl, rfl⟩ := H
    go_wp2
    go_ret;exact ⟨_,er_,by (with_reducible repeat (first|apply Kd.R_alloc|apply Kd.R_drewN|apply Kd.R_drew));exact HO_3.out,pS55_ HI0.out,pT55_ HB.out,pK_ HK.out⟩

/-! ### spec_l01Cur_once: function 10 -/
def spec_l01Cur_once.f (s0_0 : List Int) (s0_1 s0_2 a1 : Int) : Option (Bool × Int × Int) := (spec_l01Cur_pick.f s0_0 s0_1 s0_2 a1).bind fun bt153 => (some ((bt153.1 == (wrap64 (a1 - 1))), bt153.2.1, bt153.2.2))
set_option maxHeartbeats 8000000 in
set_option maxRecDepth 100000 in
theorem spec_l01Cur_once.calls (g : Nat) (s0_0 : List Int) (s0_1 s0_2 a1 : Int) (r1 : Bool) (r2 r3 : Int) (w0 w : World) (hI : IsS55 w0 w g s0_0 s0_1 s0_2) (hB : Below w0.heap.size w0 w) (h : spec_l01Cur_once.f s0_0 s0_1 s0_2 a1 = some (r1, r2, r3)) :
  Calls Try.prog 10 #[.pointer (some ⟨g, 0, none⟩), I L a1] w fun e w' => e = .returned (.bool r1) ∧ IsS55 w0 w' g s0_0 r2 r3 ∧ Below w0.heap.size w0 w' ∧ KeepBut w w' g none := by
 have HI0 := D hI
 have HK := D (KeepBut.refl w g none)
 have HL := D hB.size
 clear hI
 have HW0 := D hB.size
 have HB := D hB
 clear hB
 have H : ((spec_l01Cur_pick.f s0_0 s0_1 s0_2 a1).bind fun bt153 => (some ((bt153.1 == (wrap64 (a1 - 1))), bt153.2.1, bt153.2.2))) = some (r1, r2, r3) := h
 clear h
 obtain ⟨⟨t153, t154, t155⟩, A30, H⟩ := bs_.mp H
 (try dsimp only at H)
 have A3 := D A30
 clear A30
 simp only [Option.some.injEq, Prod.mk.injEq] at H
 obtain ⟨rfl, rfl, rfl⟩ := H
 go_enter Try.func10, Try.ntmps10
 go_wp2_with (first|((with_reducible refine gate_callee (f:=12) rfl ?_);refine goesL_ (some 7) rfl rfl Try.func12 (by kernel_rfl) rfl #[.pointer (some ⟨g,0,none⟩),I L a1] rfl Z15 ?_;(with_reducible refine (spec_l01Cur_pick.calls g s0_0 s0_1 s0_2 a1 t153 t154 t155 w0 _ ?side1 ?side2 A3.out).mono ?_);(case side1=>exact pS55_ HI0.out);(case side2=>exact pT55_ HB.out);rintro e w4 ⟨rfl,hi,hb,hk⟩;refine ⟨_,rfl,?_⟩;have n_:=an_ (KeepBut.trans (pK_ HK.out) hk (.inl rfl))<|an_ (hb)<|D (hi);clear HK HB HI0;obtain ⟨HK,HB,HI0⟩:=n_;(try clear hb);(try clear hk);(try clear hi)))
 go_ret
 exact ⟨er_, pS55_ HI0.out, pT55_ HB.out, pK_ HK.out⟩

/-! ### spec_l01Cur_raw: function 11 -/
def spec_l01Cur_raw.f (s0_0 : List Int) (s0_1 s0_2 : Int) : Option (Int × Int × Int) := (spec_l01Cur_pick.f s0_0 s0_1 s0_2 8).bind fun bt156 => (if bt156.1 = 0 then ((spec_l01Cur_pick.f s0_0 bt156.2.1 bt156.2.2 256).bind fun bt159 => (some (wrap64 (bt159.1 - 128), bt159.2.1, bt159.2.2))) else (if bt156.1 = 1 then ((some (([9223372036854775807, (-9223372036854775808), 4611686018427387904, 65535, 65536, (-1000), 4294967295, 4294967296] : List Int) : List Int)).bind fun y162 => ((spec_l01Cur_pick.f s0_0 bt156.2.1 bt156.2.2 8).bind fun bt165 => (if 0 ≤ bt165.1 then (if bt165.1 < (y162.length : Int) then (some (rd y162 bt165.1, bt165.2.1, bt165.2.2)) else (none)) else (none)))) else ((spec_l01Cur_pick.f s0_0 bt156.2.1 bt156.2.2 14).bind fun bt169 => (some (wrap64 (bt169.1 - 3), bt169.2.1, bt169.2.2)))))
set_option maxHeartbeats 8000000 in
set_option maxRecDepth 100000 in
theorem spec_l01Cur_raw.calls (g : Nat) (s0_0 : List Int) (s0_1 s0_2 r1 r2 r3 : Int) (w0 w : World) (hI : IsS55 w0 w g s0_0 s0_1 s0_2) (hB : Below w0.heap.size w0 w) (h : spec_l01Cur_raw.f s0_0 s0_1 s0_2 = some (r1, r2, r3)) :
  Calls Try.prog 11 #[.pointer (some ⟨g, 0, none⟩)] w fun e w' => e = .returned (I L r1) ∧ IsS55 w0 w' g s0_0 r2 r3 ∧ Below w0.heap.size w0 w' ∧ KeepBut w w' g none := by
 have HI0 := D hI
 have HK := D (KeepBut.refl w g none)
 have HL := D hB.size
 clear hI
 have HW0 := D hB.size
 have HB := D hB
 clear hB
 have H:((spec_l01Cur_pick.f s0_0 s0_1 s0_2 8).bind fun bt156=>(if bt156.1=0 then ((spec_l01Cur_pick.f s0_0 bt156.2.1 bt156.2.2 256).bind fun bt159=>(some (wrap64 (bt159.1 - 128),bt159.2.1,bt159.2.2))) else (if bt156.1=1 then ((some (([9223372036854775807,(-9223372036854775808),4611686018427387904,65535,65536,(-1000),4294967295,4294967296]:List Int):List Int)).bind fun y162=>((spec_l01Cur_pick.f s0_0 bt156.2.1 bt156.2.2 8).bind fun bt165=>(if 0≤bt165.1 then (if bt165.1 < (y162.length:Int) then (some (rd y162 bt165.1,bt165.2.1,bt165.2.2)) else (none)) else (none)))) else ((spec_l01Cur_pick.f s0_0 bt156.2.1 bt156.2.2 14).bind fun bt169=>(some (wrap64 (bt169.1 - 3),bt169.2.1,bt169.2.2))))))=some (r1,r2,r3):=h
 clear h
 obtain ⟨⟨t156, t157, t158⟩, A20, H⟩ := bs_.mp H
 (try dsimp only at H)
 have A2 := D A20
 clear A20
 have HU3 := D H
 clear H
 go_enter Try.func11, Try.ntmps11
 go_upto_if 5 with (first|((with_reducible refine gate_callee (f:=12) rfl ?_);refine goesL_ (some 4) rfl rfl Try.func12 (by kernel_rfl) rfl #[.pointer (some ⟨g,0,none⟩),I L 8] rfl Z15 ?_;(with_reducible refine (spec_l01Cur_pick.calls g s0_0 s0_1 s0_2 8 t156 t157 t158 w0 _ ?side1 ?side2 A2.out).mono ?_);(case side1=>exact pS55_ HI0.out);(case side2=>exact pT55_ HB.out);rintro e w4 ⟨rfl,hi,hb,hk⟩;refine ⟨_,rfl,?_⟩;have n_:=an_ (KeepBut.trans (pK_ HK.out) hk (.inl rfl))<|an_ (hb)<|D (hi);clear HK HB HI0;obtain ⟨HK,HB,HI0⟩:=n_;(try clear hb);(try clear hk);(try clear hi)))
 have H := HU3.out
 clear HU3
 by_cases c5 : t156 = 0
 ·rw [if_pos c5] at H
  have c5b0:(t156 == 0)=true:=beq_iff_eq.mpr c5;have c5b1:(t156 != 0)=false:=bne_eq_false_iff_eq.mpr c5;clear c5;refine rw_ c5b0 ?_;obtain ⟨⟨t159,t160,t161⟩,A60,H⟩:=bs_.mp H;(try dsimp only at H);have A6:=D A60;clear A60;simp only [Option.some.injEq,Prod.mk.injEq] at H;obtain ⟨rfl,rfl,rfl⟩:=H
  go_wp2_with (first|((with_reducible refine gate_callee (f:=12) rfl ?_);refine goesL_ (some 8) rfl rfl Try.func12 (by kernel_rfl) rfl #[.pointer (some ⟨g,0,none⟩),I L 256] rfl Z15 ?_;(with_reducible refine (spec_l01Cur_pick.calls g s0_0 t157 t158 256 t159 t160 t161 w0 _ ?side1 ?side2 A6.out).mono ?_);(case side1=>exact pS55_ HI0.out);(case side2=>exact pT55_ HB.out);rintro e w7 ⟨rfl,hi,hb,hk⟩;refine ⟨_,rfl,?_⟩;have n_:=an_ (KeepBut.trans (pK_ HK.out) hk (.inl rfl))<|an_ (hb)<|D (hi);clear HK HB HI0;obtain ⟨HK,HB,HI0⟩:=n_;(try clear hb);(try clear hk);(try clear hi)))
  go_ret; exact ⟨er_, pS55_ HI0.out, pT55_ HB.out, pK_ HK.out⟩
 ·rw [if_neg c5] at H
  have c5b0:(t156 == 0)=false:=beq_eq_false_iff_ne.mpr c5;have c5b1:(t156 != 0)=true:=bne_iff_ne.mpr c5;refine rw_ c5b0 ?_
  by_cases c8 : t156 = 1
  ·rw [if_pos c8] at H
   have c8b0:(t156 == 1)=true:=beq_iff_eq.mpr c8;have c8b1:(t156 != 1)=false:=bne_eq_false_iff_eq.mpr c8;clear c8;obtain ⟨y162,hy162⟩:∃ y_:List Int,y_=(([9223372036854775807,(-9223372036854775808),4611686018427387904,65535,65536,(-1000),4294967295,4294967296]:List Int)):=⟨_,rfl⟩
   replace H:((spec_l01Cur_pick.f s0_0 t157 t158 8).bind fun bt165=>(if 0≤bt165.1 then (if bt165.1 < (y162.length:Int) then (some (rd y162 bt165.1,bt165.2.1,bt165.2.2)) else (none)) else (none)))=some (r1,r2,r3):=by first|(rw [hy162];with_reducible exact H)|(have H2_:=(Option.bind_some _ _).symm.trans H;rw [hy162];with_reducible exact H2_)|(have H2_:=(Option.bind_some _ _).symm.trans H;with_reducible exact H2_)|with_reducible exact H|(rw [hy162];exact H)|exact H
   have Ny162 := D hy162; clear hy162; obtain ⟨⟨t165, t166, t167⟩, A90, H⟩ := bs_.mp H; (try dsimp only at H); have A9 := D A90; clear A90
   by_cases c10 : 0 ≤ t165
   ·rw [if_pos c10] at H
    have c10b0 : decide (0 ≤ t165) = true := decide_eq_true c10; clear c10
    by_cases c11 : t165 < (y162.length : Int)
    ·rw [if_pos c11] at H
     have c11b0 : decide (t165 < (y162.length : Int)) = true := decide_eq_true c11; clear c11; simp only [Option.some.injEq, Prod.mk.injEq] at H; obtain ⟨rfl, rfl, rfl⟩ := H
     go_wp2_with (first|((with_reducible refine gate_dst (N:=12) rfl ?_);refine Kd.R_lit (Kd.int .i64) _ 3 ?hg (N:=12) ?hd (xs:=([9223372036854775807,(-9223372036854775808),4611686018427387904,65535,65536,(-1000),4294967295,4294967296]:List Int)) (inner:=[I L 9223372036854775807,I L (-9223372036854775808),I L 4611686018427387904,I L 65535,I L 65536,I L (-1000),I L 4294967295,I L 4294967296]) (ok:=fun _=>True) (okp:=fun _=>True) ?hr ?hp (fun _ hk=>hk) trivial (Below.refl _ _) (Nat.le_refl _) (by simp) ?_;(case hd=>rfl);(case hg=>rfl);(case hr=>first|(go_simp;done)|(go_simp;rfl));(case hp=>exact (Reps.one (show Kd.M (Kd.int .i64) _ _ _ 9223372036854775807 [I L 9223372036854775807] from rfl) (Reps.one (show Kd.M (Kd.int .i64) _ _ _ (-9223372036854775808) [I L (-9223372036854775808)] from rfl) (Reps.one (show Kd.M (Kd.int .i64) _ _ _ 4611686018427387904 [I L 4611686018427387904] from rfl) (Reps.one (show Kd.M (Kd.int .i64) _ _ _ 65535 [I L 65535] from rfl) (Reps.one (show Kd.M (Kd.int .i64) _ _ _ 65536 [I L 65536] from rfl) (Reps.one (show Kd.M (Kd.int .i64) _ _ _ (-1000) [I L (-1000)] from rfl) (Reps.one (show Kd.M (Kd.int .i64) _ _ _ 4294967295 [I L 4294967295] from rfl) (Reps.one (show Kd.M (Kd.int .i64) _ _ _ 4294967296 [I L 4294967296] from rfl) (Reps.none _ _))))))))));intro v163 w12 ho13 hb hg_ hnew_;clear hg_ hnew_;(first|rw [← Ny162.out] at ho13|(simp only [Int.reduceToNat] at ho13;rw [← Ny162.out] at ho13));have n_:=an_ (Kd.R_lower ho13 (keep_size (w:=w) (g:=g) (row:=none) (pK_ HK.out)))<|an_ (IsS55.below (pU55_ HI0.out) hb)<|an_ (KeepBut.trans (pK_ HK.out) (KeepBut.of_below hb g none) (.inl rfl))<|D (below_step (pT55_ HB.out) hb);clear HI0 HK HB;obtain ⟨HO164,HI0,HK,HB⟩:=n_;clear hb ho13)|((with_reducible refine gate_callee (f:=12) rfl ?_);refine goesL_ (some 14) rfl rfl Try.func12 (by kernel_rfl) rfl #[.pointer (some ⟨g,0,none⟩),I L 8] rfl Z15 ?_;(with_reducible refine (spec_l01Cur_pick.calls g s0_0 t157 t158 8 t165 t166 t167 w0 _ ?side1 ?side2 A9.out).mono ?_);(case side1=>exact pS55_ HI0.out);(case side2=>exact pT55_ HB.out);rintro e w14 ⟨rfl,hi,hb,hk⟩;refine ⟨_,rfl,?_⟩;have n_:=an_ (Kd.R_mono (Kd.R_keep (IsS55.apart (show IsS55 w0 _ g s0_0 t157 t158 from pS55_ HI0.out) (pR_ HO164.out) (by decide)) hk (fun _ h=>h.2)) (fun _ h=>h.1))<|an_ (KeepBut.trans (pK_ HK.out) hk (.inl rfl))<|an_ (hb)<|D (hi);clear HO164 HK HB HI0;obtain ⟨HO164,HK,HB,HI0⟩:=n_;(try clear hb);(try clear hk);(try clear hi);obtain ⟨Ao15,co15,eo15⟩:=Kd.R_slice HO164.out;subst eo15;have p168:0≤(t165:Int):=od_ Z21;have q168:t165 < (y162.length:Int):=od_ Z21;obtain ⟨ad168,e168,hx168_0⟩:=Kd.at_int (Kd.R_reads' HO164.out).2.2 t165 p168 q168;cases e168;replace p168:=eq_true p168;replace q168:=eq_true q168))
     go_ret; exact ⟨er_, pS55_ HI0.out, pT55_ HB.out, pK_ HK.out⟩
    ·rw [if_neg c11] at H
     exact absurd H (by simp)
   ·rw [if_neg c10] at H
    exact absurd H (by simp)
  ·rw [if_neg c8] at H
   have c8b0:(t156 == 1)=false:=beq_eq_false_iff_ne.mpr c8;have c8b1:(t156 != 1)=true:=bne_iff_ne.mpr c8;obtain ⟨⟨t169,t170,t171⟩,A160,H⟩:=bs_.mp H;(try dsimp only at H);have A16:=D A160;clear A160;simp only [Option.some.injEq,Prod.mk.injEq] at H;obtain ⟨rfl,rfl,rfl⟩:=H
   go_wp2_with (first|((with_reducible refine gate_callee (f:=12) rfl ?_);refine goesL_ (some 18) rfl rfl Try.func12 (by kernel_rfl) rfl #[.pointer (some ⟨g,0,none⟩),I L 14] rfl Z15 ?_;(with_reducible refine (spec_l01Cur_pick.calls g s0_0 t157 t158 14 t169 t170 t171 w0 _ ?side1 ?side2 A16.out).mono ?_);(case side1=>exact pS55_ HI0.out);(case side2=>exact pT55_ HB.out);rintro e w17 ⟨rfl,hi,hb,hk⟩;refine ⟨_,rfl,?_⟩;have n_:=an_ (KeepBut.trans (pK_ HK.out) hk (.inl rfl))<|an_ (hb)<|D (hi);clear HK HB HI0;obtain ⟨HK,HB,HI0⟩:=n_;(try clear hb);(try clear hk);(try clear hi)))
   go_ret; exact ⟨er_, pS55_ HI0.out, pT55_ HB.out, pK_ HK.out⟩

/-! ### spec_l03Bits: function 55 -/
def spec_l03Bits.f (a0_0 a0_1 a0_2 a0_3 a0_4 : Int) : Option (Int) := if a0_0 = 4 then (some 32) else (some 128)
set_option maxHeartbeats 8000000 in
set_option maxRecDepth 100000 in
theorem spec_l03Bits.calls (a0_0 a0_1 a0_2 a0_3 a0_4 r : Int) (w : World) (h : spec_l03Bits.f a0_0 a0_1 a0_2 a0_3 a0_4 = some r) :
  Calls Try.prog 55 #[.agg #[I L a0_0, I L a0_1, I L a0_2, I L a0_3, I L a0_4]] w fun e w' => e = .returned (I L r) ∧ Below w.heap.size w w' := by
 have hu32 := Try.underlying32
 have HB := D (Below.refl w.heap.size w)
 have H : (if a0_0 = 4 then (some 32) else (some 128)) = some r := h
 clear h
 have HU2 := D H
 clear H
 go_enter Try.func55, Try.ntmps55
 go_upto_if 5 with (first|((with_reducible refine gate_dst (N:=1) rfl ?_);refine bx_ (N:=1) (cs:=#[I L a0_0,I L a0_1,I L a0_2,I L a0_3,I L a0_4]) (t:=32) ?_;intro gb172 hg w3 hbox hb;have n_:=an_ (below_step (pB_ HB.out) hb)<|an_ (hbox)<|an_ (bg_ hg (pB_ HB.out):w.heap.size≤gb172)<|D (bg_ hg (pB_ HB.out):w.heap.size≤gb172);clear HB;obtain ⟨HB,BK172,GW172,GE172⟩:=n_;clear hb hbox hg;have hcz4_0:=cells5 BK172.out))
 have H := HU2.out
 clear HU2
 by_cases c5 : a0_0 = 4
 ·rw [if_pos c5] at H
  have c5b0:(a0_0 == 4)=true:=beq_iff_eq.mpr c5;have c5b1:(a0_0 != 4)=false:=bne_eq_false_iff_eq.mpr c5;clear c5;refine rw_ c5b0 ?_;obtain rfl:=Option.some.inj H
  go_wp2
  go_ret; exact ⟨er_, pB_ HB.out⟩
 ·rw [if_neg c5] at H
  have c5b0:(a0_0 == 4)=false:=beq_eq_false_iff_ne.mpr c5;have c5b1:(a0_0 != 4)=true:=bne_iff_ne.mpr c5;refine rw_ c5b0 ?_;obtain rfl:=Option.some.inj H
  go_wp2
  go_ret; exact ⟨er_, pB_ HB.out⟩

/-! ### spec_l03Half: function 63 -/
def spec_l03Half.f (a0 : Int) : Option (Bool) := if a0 ≥ 0 then (some (decide (a0 ≤ 4294967295))) else (some false)
set_option maxHeartbeats 8000000 in
set_option maxRecDepth 100000 in
theorem spec_l03Half.calls (a0 : Int) (r : Bool) (w : World) (h : spec_l03Half.f a0 = some r) :
  Calls Try.prog 63 #[I L a0] w fun e w' => e = .returned (.bool r) ∧ Drawn0 w w' := by
 have H : (if a0 ≥ 0 then (some (decide (a0 ≤ 4294967295))) else (some false)) = some r := h
 clear h
 by_cases c2 : a0 ≥ 0
 ·rw [if_pos c2] at H
  have c2b0 : decide (0 ≤ a0) = true := decide_eq_true c2; clear c2; obtain rfl := Option.some.inj H; go_enter Try.func63, Try.ntmps63
  go_wp2
  go_ret; exact ⟨by first | rfl | (simp; done) | (simp [*]; done), by repeat (first | exact Drawn0.refl _ | apply Drawn0.step)⟩
 ·rw [if_neg c2] at H
  have c2b0 : decide (0 ≤ a0) = false := decide_eq_false c2; clear c2; obtain rfl := Option.some.inj H; go_enter Try.func63, Try.ntmps63
  go_wp2
  go_ret; exact ⟨by first | rfl | (simp; done) | (simp [*]; done), by repeat (first | exact Drawn0.refl _ | apply Drawn0.step)⟩

/-! ### spec_AddrOk: function 56 -/
def spec_AddrOk.f (a0_0 a0_1 a0_2 a0_3 a0_4 : Int) : Option (Bool) := if a0_0 = 4 then (if a0_1 = 0 then (if a0_2 = 0 then (if a0_3 = 0 then ((spec_l03Half.f a0_4).bind fun t174 => (some t174)) else (some false)) else (some false)) else (some false)) else (if a0_0 = 6 then ((spec_l03Half.f a0_1).bind fun t175 => (if t175 = true then ((spec_l03Half.f a0_2).bind fun t176 => (if t176 = true then ((spec_l03Half.f a0_3).bind fun t177 => (if t177 = true then ((spec_l03Half.f a0_4).bind fun t178 => (some t178)) else (some false))) else (some false))) else (some false))) else (some false))
set_option maxHeartbeats 8000000 in
set_option maxRecDepth 100000 in
theorem spec_AddrOk.calls (a0_0 a0_1 a0_2 a0_3 a0_4 : Int) (r : Bool) (w : World) (h : spec_AddrOk.f a0_0 a0_1 a0_2 a0_3 a0_4 = some r) :
  Calls Try.prog 56 #[.agg #[I L a0_0, I L a0_1, I L a0_2, I L a0_3, I L a0_4]] w fun e w' => e = .returned (.bool r) ∧ Below w.heap.size w w' := by
 have hu32 := Try.underlying32
 have HB := D (Below.refl w.heap.size w)
 have H:(if a0_0=4 then (if a0_1=0 then (if a0_2=0 then (if a0_3=0 then ((spec_l03Half.f a0_4).bind fun t174=>(some t174)) else (some false)) else (some false)) else (some false)) else (if a0_0=6 then ((spec_l03Half.f a0_1).bind fun t175=>(if t175=true then ((spec_l03Half.f a0_2).bind fun t176=>(if t176=true then ((spec_l03Half.f a0_3).bind fun t177=>(if t177=true then ((spec_l03Half.f a0_4).bind fun t178=>(some t178)) else (some false))) else (some false))) else (some false))) else (some false)))=some r:=h
 clear h
 have HU2 := D H
 clear H
 go_enter Try.func56, Try.ntmps56
 go_upto_if 5 with (first|((with_reducible refine gate_dst (N:=1) rfl ?_);refine bx_ (N:=1) (cs:=#[I L a0_0,I L a0_1,I L a0_2,I L a0_3,I L a0_4]) (t:=32) ?_;intro gb173 hg w3 hbox hb;have n_:=an_ (below_step (pB_ HB.out) hb)<|an_ (hbox)<|an_ (bg_ hg (pB_ HB.out):w.heap.size≤gb173)<|D (bg_ hg (pB_ HB.out):w.heap.size≤gb173);clear HB;obtain ⟨HB,BK173,GW173,GE173⟩:=n_;clear hb hbox hg;have hcz4_0:=cells5 BK173.out))
 have H := HU2.out
 clear HU2
 by_cases c5 : a0_0 = 4
 ·rw [if_pos c5] at H
  have c5b0:(a0_0 == 4)=true:=beq_iff_eq.mpr c5;have c5b1:(a0_0 != 4)=false:=bne_eq_false_iff_eq.mpr c5;clear c5;refine rw_ c5b0 ?_
  by_cases c6 : a0_1 = 0
  ·rw [if_pos c6] at H
   have c6b0 : (a0_1 == 0) = true := beq_iff_eq.mpr c6; have c6b1 : (a0_1 != 0) = false := bne_eq_false_iff_eq.mpr c6; clear c6
   by_cases c7 : a0_2 = 0
   ·rw [if_pos c7] at H
    have c7b0 : (a0_2 == 0) = true := beq_iff_eq.mpr c7; have c7b1 : (a0_2 != 0) = false := bne_eq_false_iff_eq.mpr c7; clear c7
    by_cases c8 : a0_3 = 0
    ·rw [if_pos c8] at H
     have c8b0:(a0_3 == 0)=true:=beq_iff_eq.mpr c8;have c8b1:(a0_3 != 0)=false:=bne_eq_false_iff_eq.mpr c8;clear c8;obtain ⟨t174,A90,H⟩:=bs_.mp H;(try dsimp only at H);have A9:=D A90;clear A90;obtain rfl:=Option.some.inj H;have hcz10_0:=cells5 BK173.out
     go_wp2_with (first | (go_at_call 63; (with_reducible refine (spec_l03Half.calls a0_4 t174 _ A9.out).mono ?_); rintro e w' ⟨rfl, ⟨nd, rfl⟩⟩))
     go_ret; exact ⟨er_, pB_ HB.out⟩
    ·rw [if_neg c8] at H
     have c8b0:(a0_3 == 0)=false:=beq_eq_false_iff_ne.mpr c8;have c8b1:(a0_3 != 0)=true:=bne_iff_ne.mpr c8;obtain rfl:=Option.some.inj H;have hcz11_0:=cells5 BK173.out
     go_wp2
     go_ret; exact ⟨er_, pB_ HB.out⟩
   ·rw [if_neg c7] at H
    have c7b0:(a0_2 == 0)=false:=beq_eq_false_iff_ne.mpr c7;have c7b1:(a0_2 != 0)=true:=bne_iff_ne.mpr c7;obtain rfl:=Option.some.inj H;have hcz12_0:=cells5 BK173.out
    go_wp2
    go_ret; exact ⟨er_, pB_ HB.out⟩
  ·rw [if_neg c6] at H
   have c6b0:(a0_1 == 0)=false:=beq_eq_false_iff_ne.mpr c6;have c6b1:(a0_1 != 0)=true:=bne_iff_ne.mpr c6;obtain rfl:=Option.some.inj H;have hcz13_0:=cells5 BK173.out
   go_wp2
   go_ret; exact ⟨er_, pB_ HB.out⟩
 ·rw [if_neg c5] at H
  have c5b0:(a0_0 == 4)=false:=beq_eq_false_iff_ne.mpr c5;have c5b1:(a0_0 != 4)=true:=bne_iff_ne.mpr c5;refine rw_ c5b0 ?_
  by_cases c14 : a0_0 = 6
  ·rw [if_pos c14] at H
   have c14b0:(a0_0 == 6)=true:=beq_iff_eq.mpr c14;have c14b1:(a0_0 != 6)=false:=bne_eq_false_iff_eq.mpr c14;clear c14;obtain ⟨t175,A150,H⟩:=bs_.mp H;(try dsimp only at H);have A15:=D A150;clear A150
   by_cases c16 : t175 = true
   ·subst c16
    rw [if_pos rfl] at H; obtain ⟨t176, A170, H⟩ := bs_.mp H; (try dsimp only at H); have A17 := D A170; clear A170
    by_cases c18 : t176 = true
    ·subst c18
     rw [if_pos rfl] at H; obtain ⟨t177, A190, H⟩ := bs_.mp H; (try dsimp only at H); have A19 := D A190; clear A190
     by_cases c20 : t177 = true
     ·subst c20
      rw [if_pos rfl] at H;obtain ⟨t178,A210,H⟩:=bs_.mp H;(try dsimp only at H);have A21:=D A210;clear A210;obtain rfl:=Option.some.inj H;have hcz22_0:=cells5 BK173.out
      go_wp2_with (first|(go_at_call 63;(with_reducible refine (spec_l03Half.calls a0_1 true _ A15.out).mono ?_);rintro e w' ⟨rfl,⟨nd,rfl⟩⟩)|(go_at_call 63;(with_reducible refine (spec_l03Half.calls a0_2 true _ A17.out).mono ?_);rintro e w' ⟨rfl,⟨nd,rfl⟩⟩)|(go_at_call 63;(with_reducible refine (spec_l03Half.calls a0_3 true _ A19.out).mono ?_);rintro e w' ⟨rfl,⟨nd,rfl⟩⟩)|(go_at_call 63;(with_reducible refine (spec_l03Half.calls a0_4 t178 _ A21.out).mono ?_);rintro e w' ⟨rfl,⟨nd,rfl⟩⟩))
      go_ret; exact ⟨er_, pB_ HB.out⟩
     ·replace c20 := Bool.eq_false_iff.mpr c20
      subst c20;rw [if_neg (show ¬ (false=true) by decide)] at H;obtain rfl:=Option.some.inj H;have hcz23_0:=cells5 BK173.out
      go_wp2_with (first|(go_at_call 63;(with_reducible refine (spec_l03Half.calls a0_1 true _ A15.out).mono ?_);rintro e w' ⟨rfl,⟨nd,rfl⟩⟩)|(go_at_call 63;(with_reducible refine (spec_l03Half.calls a0_2 true _ A17.out).mono ?_);rintro e w' ⟨rfl,⟨nd,rfl⟩⟩)|(go_at_call 63;(with_reducible refine (spec_l03Half.calls a0_3 false _ A19.out).mono ?_);rintro e w' ⟨rfl,⟨nd,rfl⟩⟩))
      go_ret; exact ⟨er_, pB_ HB.out⟩
    ·replace c18 := Bool.eq_false_iff.mpr c18
     subst c18;rw [if_neg (show ¬ (false=true) by decide)] at H;obtain rfl:=Option.some.inj H;have hcz24_0:=cells5 BK173.out
     go_wp2_with (first|(go_at_call 63;(with_reducible refine (spec_l03Half.calls a0_1 true _ A15.out).mono ?_);rintro e w' ⟨rfl,⟨nd,rfl⟩⟩)|(go_at_call 63;(with_reducible refine (spec_l03Half.calls a0_2 false _ A17.out).mono ?_);rintro e w' ⟨rfl,⟨nd,rfl⟩⟩))
     go_ret; exact ⟨er_, pB_ HB.out⟩
   ·replace c16 := Bool.eq_false_iff.mpr c16
    subst c16;rw [if_neg (show ¬ (false=true) by decide)] at H;obtain rfl:=Option.some.inj H;have hcz25_0:=cells5 BK173.out
    go_wp2_with (first | (go_at_call 63; (with_reducible refine (spec_l03Half.calls a0_1 false _ A15.out).mono ?_); rintro e w' ⟨rfl, ⟨nd, rfl⟩⟩))
    go_ret; exact ⟨er_, pB_ HB.out⟩
  ·rw [if_neg c14] at H
   have c14b0:(a0_0 == 6)=false:=beq_eq_false_iff_ne.mpr c14;have c14b1:(a0_0 != 6)=true:=bne_iff_ne.mpr c14;obtain rfl:=Option.some.inj H;have hcz26_0:=cells5 BK173.out
   go_wp2
   go_ret; exact ⟨er_, pB_ HB.out⟩

end Go.Proofs.Ytoacddcbiceeeab.PFnCostAdds
