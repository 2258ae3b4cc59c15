-- by a program of this session's, over the kit's words
import Derived.Test.YtpkdkhhknmlpjaaPZFnTakenAdds
import Derived.Test.YtpkdkhhknmlpjaaPFnTakenAddsx0
namespace Go.Proofs.Ytpkdkhhknmlpjaa.PFnTakenAdds
open Go.RowKit Go.Proofs.YtpkdkhhknmlpjaaW.PrintWords Go.Proofs.YtpkdkhhknmlpjaaW.PrintLast Go.Proofs.YtpkdkhhknmlpjaaW.PrintMore Go.Proofs.YtpkdkhhknmlpjaaV Go.Proofs.Ytpkdkhhknmlpjaa.ZFnTakenAdds
open Go.Value renaming int → I, slice → Y
open Go.IntKind renaming i64 → L
open Aside0 renaming mk → D
open Option renaming bind_eq_some_iff → bs_
attribute [local go_sem] max2_int min2_int max_two min_two max_three min_three max_four min_four   -- for this text's walks alone
set_option linter.unusedVariables false
set_option linter.unusedSimpArgs false

/-! ### laws_big: function 4 -/
def laws_big.f (l0 : List Int) : Option (Bool) := some (decide ((l0.length : Int) > 1048576))
set_option maxHeartbeats 8000000 in
set_option maxRecDepth 100000 in
theorem laws_big.calls (A0 : Option Addr) (c0 : Nat) (l0 : List Int) (r : Bool) (w : World) (hr0 : Kd.C (Kd.int .u8) w A0 l0.length l0) (hc0 : l0.length ≤ c0) (h : laws_big.f l0 = some r) :
  Calls Try.prog 4 #[Y A0 l0.length c0] w fun e w' => e = .returned (.bool r) ∧ Drawn0 w w' := by
 have HR0 := D hr0
 have HC0 := D hc0
 clear hr0 hc0
 have H : (some (decide ((l0.length : Int) > 1048576))) = some r := h
 clear h
 obtain rfl := Option.some.inj H
 go_enter Try.func4, Try.ntmps4
 go_wp2
 go_ret
 exact ⟨by first | rfl | (simp; done) | (simp [*]; done), by repeat (first | exact Drawn0.refl _ | apply Drawn0.step)⟩

/-- A state of type 55 at block g of W; what its slices lead to came in by w0. -/
def IsS55 (w0 W : World) (g : Nat) (f0 : List Int) (f1 f2 : Int) : Prop := ∃ A0 c0, W.heap[g]? = some (.cells #[Y A0 f0.length c0, I L f1, I L f2] 55 (0, 0)) ∧ w0.heap.size ≤ g ∧ Kd.C (Kd.int .u8) w0 A0 f0.length f0
theorem IsS55.grown {w0 W : World} {g : Nat} {f0 : List Int} {f1 : Int} {f2 : Int} {W1 : World} {row : Option Nat} (h : IsS55 w0 W g f0 f1 f2) (hw : W.grownBy W1 row) (hne : some g ≠ row) : IsS55 w0 W1 g f0 f1 f2 := by
 obtain ⟨A0, c0, hb, hg, hr0⟩ := h
 exact ⟨A0, c0, blk_grown hb hw hne, hg, hr0⟩
theorem IsS55.own_neN {w0 W : World} {g : Nat} {f0 : List Int} {f1 : Int} {f2 : Int} {α : Type} {d : Kd α} {e : Nat} {base : Nat} {ok : Nat → Prop} {v : Value} {xs : List α} (h : IsS55 w0 W g f0 f1 f2) (ho : Kd.N d e W base ok v xs) (ht : e ≠ 55) : some g ≠ v.ownBlock := by
 obtain ⟨A0, c0, hb, hg, hr0⟩ := h
 exact Kd.N_ne ho hb ht
theorem IsS55.fresh {w0 W : World} {g : Nat} {f0 : List Int} {f1 : Int} {f2 : Int} (h : IsS55 w0 W g f0 f1 f2) : ∀ k, W.heap.size ≤ k → k ≠ g := by
 obtain ⟨A0, c0, hb, hg, hr0⟩ := h
 exact Kd.freshB hb
theorem IsS55.kept {w0 W : World} {g : Nat} {f0 : List Int} {f1 : Int} {f2 : Int} {W1 : World} {S : Nat → Prop} (h : IsS55 w0 W g f0 f1 f2) (hk : Kept W W1 S) (hne : ¬ S g) : IsS55 w0 W1 g f0 f1 f2 := by
 obtain ⟨A0, c0, hb, hg, hr0⟩ := h
 exact ⟨A0, c0, blk_kept hb hk hne, hg, hr0⟩
theorem IsS55.below {w0 W : World} {g : Nat} {f0 : List Int} {f1 : Int} {f2 : Int} {W1 : World} (h : IsS55 w0 W g f0 f1 f2) (hw : Below W.heap.size W W1) : IsS55 w0 W1 g f0 f1 f2 := h.grown (grown_of_below hw none) (by simp)
theorem IsS55.alloc {w0 W : World} {g : Nat} {f0 : List Int} {f1 : Int} {f2 : Int} (h : IsS55 w0 W g f0 f1 f2) (o : Obj) : IsS55 w0 (W.alloc o) g f0 f1 f2 := h.below (below_alloc (Below.refl _ _) o)
theorem IsS55.drewN {w0 W : World} {g : Nat} {f0 : List Int} {f1 : Int} {f2 : Int} (h : IsS55 w0 W g f0 f1 f2) (m : Nat) : IsS55 w0 (W.drewN m) g f0 f1 f2 := h
theorem IsS55.drew {w0 W : World} {g : Nat} {f0 : List Int} {f1 : Int} {f2 : Int} (h : IsS55 w0 W g f0 f1 f2) : IsS55 w0 W.drew g f0 f1 f2 := h
theorem IsS55.at_ {w0 W : World} {g : Nat} {f0 : List Int} {f1 : Int} {f2 : Int} {w' : World} {m : Nat} (hq : W.drewN m = w') (h : IsS55 w0 W g f0 f1 f2) : IsS55 w0 w' g f0 f1 f2 := by subst hq; exact IsS55.drewN h m
theorem IsS55.apart {w0 W : World} {g : Nat} {f0 : List Int} {f1 : Int} {f2 : Int} {α : Type} {d : Kd α} {e : Nat} {base : Nat} {ok : Nat → Prop} {v : Value} {xs : List α} (h : IsS55 w0 W g f0 f1 f2) (ho : d.R e W base ok v xs) (ht : ∀ q, q ∈ e :: d.E → q ≠ 55) : d.R e W base (fun k => ok k ∧ k ≠ g) v xs := by
 obtain ⟨A0, c0, hb, hg, hr0⟩ := h
 exact Kd.R_types ho hb ht
theorem IsS55.own_ne {w0 W : World} {g : Nat} {f0 : List Int} {f1 : Int} {f2 : Int} {α : Type} {d : Kd α} {e : Nat} {base : Nat} {ok : Nat → Prop} {v : Value} {xs : List α} (h : IsS55 w0 W g f0 f1 f2) (ho : d.R e W base ok v xs) (ht : e ≠ 55) : some g ≠ v.ownBlock := by
 obtain ⟨A0, c0, hb, hg, hr0⟩ := h
 exact Kd.R_ne ho hb ht
theorem IsS55.apartQ {w0 W : World} {g : Nat} {f0 : List Int} {f1 : Int} {f2 : Int} {α : Type} {d : Kd α} {e : Nat} {base : Nat} {ok : Nat → Prop} {v : Value} {xs : List α} (h : IsS55 w0 W g f0 f1 f2) (ho : d.Q e W base ok v xs) (ht : ∀ q, q ∈ e :: d.E → q ≠ 55) : d.Q e W base (fun k => ok k ∧ k ≠ g) v xs := by
 obtain ⟨A0, c0, hb, hg, hr0⟩ := h
 exact Kd.Q_types ho hb ht
theorem IsS55.own_neQ {w0 W : World} {g : Nat} {f0 : List Int} {f1 : Int} {f2 : Int} {α : Type} {d : Kd α} {e : Nat} {base : Nat} {ok : Nat → Prop} {v : Value} {xs : List α} (h : IsS55 w0 W g f0 f1 f2) (ho : d.Q e W base ok v xs) (ht : e ≠ 55) : some g ≠ v.ownBlock := by
 obtain ⟨A0, c0, hb, hg, hr0⟩ := h
 exact Kd.Q_ne ho hb ht
theorem IsS55.apartS {w0 W : World} {g : Nat} {f0 : List Int} {f1 : Int} {f2 : Int} {α : Type} {d : Kd α} {e : Nat} {base : Nat} {ok : Nat → Prop} {v : Value} {xs : List α} (h : IsS55 w0 W g f0 f1 f2) (ho : d.S e W base ok v xs) (ht : ∀ q, q ∈ e :: d.E → q ≠ 55) : d.S e W base (fun k => ok k ∧ k ≠ g) v xs := by
 obtain ⟨A0, c0, hb, hg, hr0⟩ := h
 exact Kd.S_types ho hb ht
theorem IsS55.own_neS {w0 W : World} {g : Nat} {f0 : List Int} {f1 : Int} {f2 : Int} {α : Type} {d : Kd α} {e : Nat} {base : Nat} {ok : Nat → Prop} {v : Value} {xs : List α} (h : IsS55 w0 W g f0 f1 f2) (ho : d.S e W base ok v xs) (ht : e ≠ 55) : some g ≠ v.ownBlock := by
 obtain ⟨A0, c0, hb, hg, hr0⟩ := h
 exact Kd.S_ne ho hb ht
theorem IsS55.lt {w0 W : World} {g : Nat} {f0 : List Int} {f1 : Int} {f2 : Int} (h : IsS55 w0 W g f0 f1 f2) : g < W.heap.size := by
 obtain ⟨A0, c0, hb, hg, hr0⟩ := h
 exact blk_lt hb
theorem IsS55.ge {w0 W : World} {g : Nat} {f0 : List Int} {f1 : Int} {f2 : Int} (h : IsS55 w0 W g f0 f1 f2) : w0.heap.size ≤ g := by
 obtain ⟨A0, c0, hb, hg, hr0⟩ := h
 exact hg
theorem IsS55.ne_blk {w0 W : World} {g : Nat} {f0 : List Int} {f1 : Int} {f2 : Int} {a : Nat} {cs : Array Value} {t : TypeId} {fr : Nat × Nat} (h : IsS55 w0 W g f0 f1 f2) (hb2 : W.heap[a]? = some (.cells cs t fr)) (ht : t ≠ 55) : g ≠ a := by
 obtain ⟨A0, c0, hb, hg, hr0⟩ := h
 rintro rfl
 rw [hb] at hb2
 injection hb2 with hb2
 injection hb2 with _ ht2
 exact ht ht2.symm
theorem IsS55.far {w0 W : World} {g : Nat} {f0 : List Int} {f1 : Int} {f2 : Int} {p : Addr} (h : IsS55 w0 W g f0 f1 f2) (hne : g ≠ p.block) (u : Value) : IsS55 w0 (W.setCell p u) g f0 f1 f2 := by
 obtain ⟨A0, c0, hb, hg, hr0⟩ := h
 exact ⟨A0, c0, blk_far hb hne u, hg, hr0⟩
theorem cellS55_0 {W : World} {g : Nat} {A0 : Option Addr} {c0 : Nat} {f0 : List Int} {f1 : Int} {f2 : Int} (h : W.heap[g]? = some (.cells #[Y A0 f0.length c0, I L f1, I L f2] 55 (0, 0))) : W.cell? ⟨g, 0, none⟩ = some (Y A0 f0.length c0) := (blk_cell h 0).trans rfl
theorem cellS55_1 {W : World} {g : Nat} {A0 : Option Addr} {c0 : Nat} {f0 : List Int} {f1 : Int} {f2 : Int} (h : W.heap[g]? = some (.cells #[Y A0 f0.length c0, I L f1, I L f2] 55 (0, 0))) : W.cell? ⟨g, 1, none⟩ = some (I L f1) := (blk_cell h 1).trans rfl
theorem IsS55.set_1 {w0 W : World} {g : Nat} {f0 : List Int} {f1 : Int} {f2 : Int} (h : IsS55 w0 W g f0 f1 f2) (x : Int) : IsS55 w0 (W.setCell ⟨g, 1, none⟩ (I L x)) g f0 x f2 := by
 obtain ⟨A0, c0, hb, hg, hr0⟩ := h
 exact ⟨A0, c0, by simpa using blk_set hb 1 (I L x), hg, hr0⟩
theorem cellS55_2 {W : World} {g : Nat} {A0 : Option Addr} {c0 : Nat} {f0 : List Int} {f1 : Int} {f2 : Int} (h : W.heap[g]? = some (.cells #[Y A0 f0.length c0, I L f1, I L f2] 55 (0, 0))) : W.cell? ⟨g, 2, none⟩ = some (I L f2) := (blk_cell h 2).trans rfl
theorem IsS55.set_2 {w0 W : World} {g : Nat} {f0 : List Int} {f1 : Int} {f2 : Int} (h : IsS55 w0 W g f0 f1 f2) (x : Int) : IsS55 w0 (W.setCell ⟨g, 2, none⟩ (I L x)) g f0 f1 x := by
 obtain ⟨A0, c0, hb, hg, hr0⟩ := h
 exact ⟨A0, c0, by simpa using blk_set hb 2 (I L x), hg, hr0⟩
theorem IsS55.new (w0 W : World) (A0 : Option Addr) (c0 : Nat) (f0 : List Int) (f1 f2 : Int) (hB : Below w0.heap.size w0 W) (hr0 : Kd.C (Kd.int .u8) w0 A0 f0.length f0) : IsS55 w0 (W.alloc (.cells #[Y A0 f0.length c0, I L f1, I L f2] 55)) W.heap.size f0 f1 f2 := ⟨A0, c0, by simpa using heap_alloc_new W _, hB.size, hr0⟩
theorem IsS55.farN {w0 W : World} {g b o : Nat} {f0 : List Int} {f1 : Int} {f2 : Int} {vs : List Value} (h : IsS55 w0 W g f0 f1 f2) (hne : g ≠ b) : IsS55 w0 (putN W b o vs) g f0 f1 f2 := putN_ind (C := fun w => IsS55 w0 w g f0 f1 f2) (fun _ _ _ h => IsS55.far h hne _) vs W o h
theorem pS55_ {w0 W W' : World} {g : Nat} {f0 : List Int} {f1 : Int} {f2 : Int} {e0 : List Int} {e1 : Int} {e2 : Int} (h : IsS55 w0 W g f0 f1 f2) (k : IsS55 w0 W g f0 f1 f2 → IsS55 w0 W' g e0 e1 e2 := by intro h; repeat (first | (with_reducible first | exact h | apply IsS55.alloc | apply IsS55.drewN | apply IsS55.drew | apply IsS55.set_1 | apply IsS55.set_2 | refine IsS55.far ?_ (Aside0.out (by assumption)) _ | refine IsS55.farN ?_ (Aside0.out (by assumption))) | exact h)) : IsS55 w0 W' g e0 e1 e2 := k h
theorem pU55_ {w0 W W' : World} {g : Nat} {f0 : List Int} {f1 : Int} {f2 : Int} (h : IsS55 w0 W g f0 f1 f2) (k : IsS55 w0 W g f0 f1 f2 → IsS55 w0 W' g f0 f1 f2 := by intro h; repeat (first | (with_reducible first | exact h | apply IsS55.alloc | apply IsS55.drewN | apply IsS55.drew | apply IsS55.set_1 | apply IsS55.set_2 | refine IsS55.far ?_ (Aside0.out (by assumption)) _ | refine IsS55.farN ?_ (Aside0.out (by assumption))) | exact h)) : IsS55 w0 W' g f0 f1 f2 := k h
theorem pT55_ {B : Nat} {w0 w w' : World} (h : Below B w0 w) (k : Below B w0 w → Below B w0 w' := by intro h; repeat (first | (with_reducible first | exact h | apply below_alloc | apply pw_below_drewN | apply below_drew1 | refine below_set ?_ (IsS55.ge (Aside0.out (by assumption))) | refine below_set ?_ (Aside0.out (by assumption)) | refine belowN_ ?_ (IsS55.ge (Aside0.out (by assumption))) | refine belowN_ ?_ (Aside0.out (by assumption))) | exact h)) : Below B w0 w' := k h

/-! ### spec_l01Open: function 15 -/
def spec_l01Open.f (l0 : List Int) : Option (List Int × Int × Int) := some (l0, 0, 71 + ((l0.length : Int) % 1000))
set_option maxHeartbeats 8000000 in
set_option maxRecDepth 100000 in
theorem spec_l01Open.calls (A0 : Option Addr) (c0 : Nat) (l0 r1 : List Int) (r2 r3 : Int) (w0 w : World) (hB : Below w0.heap.size w0 w) (hr0 : Kd.C (Kd.int .u8) w0 A0 l0.length l0) (hc0 : l0.length ≤ c0) (h : spec_l01Open.f l0 = some (r1, r2, r3)) :
  Calls Try.prog 15 #[Y A0 l0.length c0] w fun e w'=>∃ g_:Nat,e=.returned (.pointer (some ⟨g_,0,none⟩))∧IsS55 w0 w' g_ r1 r2 r3∧Below w0.heap.size w0 w'∧Below w.heap.size w w':=by
 have hu55 := Try.underlying55
 have HR0 := D hr0
 have HC0 := D hc0
 clear hr0 hc0
 have HBW := D (Below.refl w.heap.size w)
 have HW0 := D hB.size
 have HB := D hB
 clear hB
 have H : (some (l0, 0, 71 + ((l0.length : Int) % 1000))) = some (r1, r2, r3) := h
 clear h
 simp only [Option.some.injEq, Prod.mk.injEq] at H
 obtain ⟨rfl, rfl, rfl⟩ := H
 go_enter Try.func15, Try.ntmps15
 go_wp2_with (first|((with_reducible refine gate_dst (N:=9) rfl ?_);refine bx_ (N:=9) (cs:=#[Y A0 l0.length c0,I L 0,I L (71 + ((l0.length:Int) % 1000))]) (t:=55) ?_;intro gb101 hg w2 hbox hb;have n_:=an_ (below_step HBW.out hb)<|an_ (below_step (pB_ HB.out) hb)<|an_ (hbox)<|an_ ((by rw [hg];exact (below_size Z21):w.heap.size≤gb101))<|D (Nat.le_trans HW0.out (by rw [hg];exact (below_size Z21):w.heap.size≤gb101):w0.heap.size≤gb101);clear HBW HB;obtain ⟨HBW,HB,BK101,GW101,GE101⟩:=n_;clear hb hbox hg))
 go_ret
 exact ⟨_,rfl,(show IsS55 w0 _ gb101 l0 0 (71 + ((l0.length:Int) % 1000)) from ⟨_,_,by refine pk_ ?_;exact BK101.out,GE101.out,HR0.out⟩),pB_ HB.out,by repeat (first|(with_reducible first|exact HBW.out|apply below_alloc|apply pw_below_drewN|apply below_drew1|refine below_set ?_ GW101.out)|exact HBW.out)⟩

/-! ### spec_l01Cur_pick: function 18 -/
def spec_l01Cur_pick.f (s0_0 : List Int) (s0_1 s0_2 a1 : Int) : Option (Int × Int × Int) := if a1 < 2 then (some (0, s0_1, s0_2)) else (if s0_1 < (s0_0.length : Int) then (if 0 ≤ s0_1 then (if a1 = 0 then (none) else (some (Int.tmod (wrap64 (rd s0_0 s0_1)) a1, wrap64 (s0_1 + 1), s0_2))) else (none)) else (if (s0_0.length : Int) > 0 then (if (s0_0.length : Int) = 0 then (none) else (if 0 ≤ (Int.tmod s0_1 (s0_0.length : Int)) then (if (Int.tmod s0_1 (s0_0.length : Int)) < (s0_0.length : Int) then (if a1 = 0 then (none) else (some (Int.tmod (wrap64 ((wrap64 (Int.tdiv (Int.tmod (wrap64 ((wrap64 (s0_2 * 1103)) + 12345)) 65521) 7)) + (wrap64 (rd s0_0 (Int.tmod s0_1 (s0_0.length : Int)))))) a1, wrap64 (s0_1 + 1), Int.tmod (wrap64 ((wrap64 (s0_2 * 1103)) + 12345)) 65521))) else (none)) else (none))) else (if a1 = 0 then (none) else (some (Int.tmod (0 : Int) a1, wrap64 (s0_1 + 1), Int.tmod (wrap64 ((wrap64 (s0_2 * 1103)) + 12345)) 65521)))))
set_option maxHeartbeats 8000000 in
set_option maxRecDepth 100000 in
theorem spec_l01Cur_pick.calls (g : Nat) (s0_0 : List Int) (s0_1 s0_2 a1 r1 r2 r3 : Int) (w0 w : World) (hI : IsS55 w0 w g s0_0 s0_1 s0_2) (hB : Below w0.heap.size w0 w) (h : spec_l01Cur_pick.f s0_0 s0_1 s0_2 a1 = some (r1, r2, r3)) :
  Calls Try.prog 18 #[.pointer (some ⟨g, 0, none⟩), I L a1] w fun e w' => e = .returned (I L r1) ∧ IsS55 w0 w' g s0_0 r2 r3 ∧ Below w0.heap.size w0 w' ∧ KeepBut w w' g none := by
 have HI0 := D hI
 have HK := D (KeepBut.refl w g none)
 have HL := D hB.size
 clear hI
 have HW0 := D hB.size
 have HB := D hB
 clear hB
 have H:(if a1 < 2 then (some (0,s0_1,s0_2)) else (if s0_1 < (s0_0.length:Int) then (if 0≤s0_1 then (if a1=0 then (none) else (some (Int.tmod (wrap64 (rd s0_0 s0_1)) a1,wrap64 (s0_1 + 1),s0_2))) else (none)) else (if (s0_0.length:Int) > 0 then (if (s0_0.length:Int)=0 then (none) else (if 0≤(Int.tmod s0_1 (s0_0.length:Int)) then (if (Int.tmod s0_1 (s0_0.length:Int)) < (s0_0.length:Int) then (if a1=0 then (none) else (some (Int.tmod (wrap64 ((wrap64 (Int.tdiv (Int.tmod (wrap64 ((wrap64 (s0_2 * 1103)) + 12345)) 65521) 7)) + (wrap64 (rd s0_0 (Int.tmod s0_1 (s0_0.length:Int)))))) a1,wrap64 (s0_1 + 1),Int.tmod (wrap64 ((wrap64 (s0_2 * 1103)) + 12345)) 65521))) else (none)) else (none))) else (if a1=0 then (none) else (some (Int.tmod (0:Int) a1,wrap64 (s0_1 + 1),Int.tmod (wrap64 ((wrap64 (s0_2 * 1103)) + 12345)) 65521))))))=some (r1,r2,r3):=h
 clear h
 by_cases c3 : a1 < 2
 ·rw [if_pos c3] at H
  have c3b0 : decide (a1 < 2) = true := decide_eq_true c3; clear c3; simp only [Option.some.injEq, Prod.mk.injEq] at H; obtain ⟨rfl, rfl, rfl⟩ := H; go_enter Try.func18, Try.ntmps18
  go_wp2
  repeat (go_quiet (fail); try go_wp2)
  go_ret; exact ⟨er_, pS55_ HI0.out, pT55_ HB.out, pK_ HK.out⟩
 ·rw [if_neg c3] at H
  have c3b0 : decide (a1 < 2) = false := decide_eq_false c3; clear c3
  by_cases c4 : s0_1 < (s0_0.length : Int)
  ·rw [if_pos c4] at H
   have c4b0 : decide (s0_1 < (s0_0.length : Int)) = true := decide_eq_true c4; clear c4
   by_cases c5 : 0 ≤ s0_1
   ·rw [if_pos c5] at H
    have c5b0 : decide (0 ≤ s0_1) = true := decide_eq_true c5; clear c5
    by_cases c6 : a1 = 0
    ·rw [if_pos c6] at H
     exact absurd H (by simp)
    ·rw [if_neg c6] at H
     have c6b0:(a1 == 0)=false:=beq_eq_false_iff_ne.mpr c6;have c6b1:(a1 != 0)=true:=bne_iff_ne.mpr c6;simp only [Option.some.injEq,Prod.mk.injEq] at H;obtain ⟨rfl,rfl,rfl⟩:=H;obtain ⟨ASz7_0,cSz7_0,HGz7,hgz7,HSz7_0⟩:=HI0.out;have hcz7_0:=cellS55_0 HGz7;have hcz7_1:=cellS55_1 HGz7;have hcz7_2:=cellS55_2 HGz7;have hfz7_1:=blk_frozen HGz7 1;have hfz7_2:=blk_frozen HGz7 2;clear HGz7 hgz7;have p102:0≤(s0_1:Int):=od_ Z68;have q102:s0_1 < (s0_0.length:Int):=od_ Z68;obtain ⟨ad102,e102,hx102_0⟩:=Kd.at_int HSz7_0 s0_1 p102 q102;cases e102;replace hx102_0:=pw_cell_below HB.out hx102_0;replace p102:=eq_true p102;replace q102:=eq_true q102;go_enter Try.func18,Try.ntmps18
     go_wp2
     repeat (go_quiet (fail); try go_wp2)
     go_ret; exact ⟨er_, pS55_ HI0.out, pT55_ HB.out, pK_ HK.out⟩
   ·rw [if_neg c5] at H
    exact absurd H (by simp)
  ·rw [if_neg c4] at H
   have c4b0:decide (s0_1 < (s0_0.length:Int))=false:=decide_eq_false c4;clear c4;have HU8:=D H;clear H;obtain ⟨ASz9_0,cSz9_0,HGz9,hgz9,HSz9_0⟩:=HI0.out;have hcz9_0:=cellS55_0 HGz9;have hcz9_1:=cellS55_1 HGz9;have hcz9_2:=cellS55_2 HGz9;have hfz9_1:=blk_frozen HGz9 1;have hfz9_2:=blk_frozen HGz9 2;clear HGz9 hgz9;go_enter Try.func18,Try.ntmps18
   go_upto_if 44 with (fail)
   repeat (go_quiet (fail); go_upto_if 44 with (fail))
   refine relet_ (F:=fun w10=>Aside0 (IsS55 w0 w10 g s0_0 s0_1 (Int.tmod (wrap64 ((wrap64 (s0_2 * 1103)) + 12345)) 65521))∧Aside0 (KeepBut w w10 g none)∧Aside0 (Below w0.heap.size w0 w10)) ⟨⟨pS55_ HI0.out⟩,⟨pK_ HK.out⟩,⟨pT55_ HB.out⟩⟩ ?_;(try clear HI0);(try clear HK);(try clear HB);rintro w10 ⟨HI0,HK,HB⟩;have H:=HU8.out;clear HU8
   by_cases c11 : (s0_0.length : Int) > 0
   ·rw [if_pos c11] at H
    have c11b0:decide (0 < (s0_0.length:Int))=true:=decide_eq_true c11;have c11b1:decide (0 < s0_0.length)=true:=decide_eq_true (by omega);clear c11;refine rw_ c11b0 ?_
    by_cases c12 : (s0_0.length : Int) = 0
    ·rw [if_pos c12] at H
     exact absurd H (by simp)
    ·rw [if_neg c12] at H
     have c12b0 : ((s0_0.length : Int) == 0) = false := beq_eq_false_iff_ne.mpr c12; have c12b1 : ((s0_0.length : Int) != 0) = true := bne_iff_ne.mpr c12
     have c12b2 : ¬ (s0_0 = []) := fun h_ => c12 (by rw [h_]; rfl)
     obtain ⟨ji13, hji13⟩ : ∃ j_ : Int, (Int.tmod s0_1 (s0_0.length : Int)) = j_ := ⟨_, rfl⟩
     replace H:(if 0≤(ji13) then (if (ji13) < (s0_0.length:Int) then (if a1=0 then (none) else (some (Int.tmod (wrap64 ((wrap64 (Int.tdiv (Int.tmod (wrap64 ((wrap64 (s0_2 * 1103)) + 12345)) 65521) 7)) + (wrap64 (rd s0_0 (ji13))))) a1,wrap64 (s0_1 + 1),Int.tmod (wrap64 ((wrap64 (s0_2 * 1103)) + 12345)) 65521))) else (none)) else (none))=some (r1,r2,r3):=by first|(rw [hji13] at H;exact H)|(simp only [hji13] at H ⊢;exact H)
     by_cases c14 : 0 ≤ (ji13)
     ·rw [if_pos c14] at H
      have c14b0 : decide (0 ≤ (ji13)) = true := decide_eq_true c14; clear c14
      by_cases c15 : (ji13) < (s0_0.length : Int)
      ·rw [if_pos c15] at H
       have c15b0 : decide ((ji13) < (s0_0.length : Int)) = true := decide_eq_true c15; clear c15
       by_cases c16 : a1 = 0
       ·rw [if_pos c16] at H
        exact absurd H (by simp)
       ·rw [if_neg c16] at H
        have c16b0:(a1 == 0)=false:=beq_eq_false_iff_ne.mpr c16;have c16b1:(a1 != 0)=true:=bne_iff_ne.mpr c16;simp only [Option.some.injEq,Prod.mk.injEq] at H;obtain ⟨rfl,rfl,rfl⟩:=H;obtain ⟨ASz17_0,cSz17_0,HGz17,hgz17,HSz17_0⟩:=HI0.out;have hcz17_0:=cellS55_0 HGz17;have hcz17_1:=cellS55_1 HGz17;have hcz17_2:=cellS55_2 HGz17;have hfz17_1:=blk_frozen HGz17 1;have hfz17_2:=blk_frozen HGz17 2;clear HGz17 hgz17;have p103:0≤((ji13):Int):=od_ Z68;have q103:(ji13) < (s0_0.length:Int):=od_ Z68;obtain ⟨ad103,e103,hx103_0⟩:=Kd.at_int HSz17_0 (ji13) p103 q103;cases e103;replace hx103_0:=pw_cell_below HB.out hx103_0;replace p103:=eq_true p103;replace q103:=eq_true q103
        go_wp2
        repeat (go_quiet (fail); try go_wp2)
        go_ret;exact ⟨by first|rfl|(simp [errW_none,errW_some] <;> rfl)|(simp only [← hji13];first|rfl|(simp [errW_none,errW_some] <;> rfl))|(simp [*,errW_none,errW_some] <;> rfl),pS55_ HI0.out,pT55_ HB.out,pK_ HK.out⟩
      ·rw [if_neg c15] at H
       exact absurd H (by simp)
     ·rw [if_neg c14] at H
      exact absurd H (by simp)
   ·rw [if_neg c11] at H
    have c11b0:decide (0 < (s0_0.length:Int))=false:=decide_eq_false c11;have c11b1:decide (0 < s0_0.length)=false:=decide_eq_false (by omega);clear c11;refine rw_ c11b0 ?_
    by_cases c18 : a1 = 0
    ·rw [if_pos c18] at H
     exact absurd H (by simp)
    ·rw [if_neg c18] at H
     have c18b0:(a1 == 0)=false:=beq_eq_false_iff_ne.mpr c18;have c18b1:(a1 != 0)=true:=bne_iff_ne.mpr c18;simp only [Option.some.injEq,Prod.mk.injEq] at H;obtain ⟨rfl,rfl,rfl⟩:=H;obtain ⟨ASz19_0,cSz19_0,HGz19,hgz19,HSz19_0⟩:=HI0.out;have hcz19_0:=cellS55_0 HGz19;have hcz19_1:=cellS55_1 HGz19;have hcz19_2:=cellS55_2 HGz19;have hfz19_1:=blk_frozen HGz19 1;have hfz19_2:=blk_frozen HGz19 2;clear HGz19 hgz19
     go_wp2
     repeat (go_quiet (fail); try go_wp2)
     go_ret; exact ⟨er_, pS55_ HI0.out, pT55_ HB.out, pK_ HK.out⟩

/-! ### spec_l01Cur_once: function 31 -/
def spec_l01Cur_once.f (s0_0 : List Int) (s0_1 s0_2 a1 : Int) : Option (Bool × Int × Int) := (spec_l01Cur_pick.f s0_0 s0_1 s0_2 a1).bind fun bt104 => (some ((bt104.1 == (wrap64 (a1 - 1))), bt104.2.1, bt104.2.2))
set_option maxHeartbeats 8000000 in
set_option maxRecDepth 100000 in
theorem spec_l01Cur_once.calls (g : Nat) (s0_0 : List Int) (s0_1 s0_2 a1 : Int) (r1 : Bool) (r2 r3 : Int) (w0 w : World) (hI : IsS55 w0 w g s0_0 s0_1 s0_2) (hB : Below w0.heap.size w0 w) (h : spec_l01Cur_once.f s0_0 s0_1 s0_2 a1 = some (r1, r2, r3)) :
  Calls Try.prog 31 #[.pointer (some ⟨g, 0, none⟩), I L a1] w fun e w' => e = .returned (.bool r1) ∧ IsS55 w0 w' g s0_0 r2 r3 ∧ Below w0.heap.size w0 w' ∧ KeepBut w w' g none := by
 have HI0 := D hI
 have HK := D (KeepBut.refl w g none)
 have HL := D hB.size
 clear hI
 have HW0 := D hB.size
 have HB := D hB
 clear hB
 have H : ((spec_l01Cur_pick.f s0_0 s0_1 s0_2 a1).bind fun bt104 => (some ((bt104.1 == (wrap64 (a1 - 1))), bt104.2.1, bt104.2.2))) = some (r1, r2, r3) := h
 clear h
 obtain ⟨⟨t104, t105, t106⟩, A30, H⟩ := bs_.mp H
 (try dsimp only at H)
 have A3 := D A30
 clear A30
 simp only [Option.some.injEq, Prod.mk.injEq] at H
 obtain ⟨rfl, rfl, rfl⟩ := H
 go_enter Try.func31, Try.ntmps31
 go_wp2_with (first|((with_reducible refine gate_callee (f:=18) rfl ?_);refine goesL_ (some 7) rfl rfl Try.func18 (by kernel_rfl) rfl #[.pointer (some ⟨g,0,none⟩),I L a1] rfl Z20 ?_;(with_reducible refine (spec_l01Cur_pick.calls g s0_0 s0_1 s0_2 a1 t104 t105 t106 w0 _ ?side1 ?side2 A3.out).mono ?_);(case side1=>exact pS55_ HI0.out);(case side2=>exact pT55_ HB.out);rintro e w4 ⟨rfl,hi,hb,hk⟩;refine ⟨_,rfl,?_⟩;have n_:=an_ (KeepBut.trans (pK_ HK.out) hk (.inl rfl))<|an_ (hb)<|D (hi);clear HK HB HI0;obtain ⟨HK,HB,HI0⟩:=n_;(try clear hb);(try clear hk);(try clear hi)))
 go_ret
 exact ⟨er_, pS55_ HI0.out, pT55_ HB.out, pK_ HK.out⟩

/-! ### spec_Stride: function 20 -/
def spec_Stride.f (a0 : Int) : Option (Int) := if a0 < 1 then (some 0) else (if a0 > 10 then (some 0) else (if a0 = 0 then (none) else (some (wrap64 (Int.tdiv (2520 : Int) a0)))))
set_option maxHeartbeats 8000000 in
set_option maxRecDepth 100000 in
theorem spec_Stride.calls (a0 r : Int) (w : World) (h : spec_Stride.f a0 = some r) :
  Calls Try.prog 20 #[I L a0] w fun e w' => e = .returned (I L r) ∧ Drawn0 w w' := by
 have H : (if a0 < 1 then (some 0) else (if a0 > 10 then (some 0) else (if a0 = 0 then (none) else (some (wrap64 (Int.tdiv (2520 : Int) a0)))))) = some r := h
 clear h
 by_cases c2 : a0 < 1
 ·rw [if_pos c2] at H
  have c2b0 : decide (a0 < 1) = true := decide_eq_true c2; clear c2; obtain rfl := Option.some.inj H; go_enter Try.func20, Try.ntmps20
  go_wp2
  go_ret; exact ⟨by first | rfl | (simp; done) | (simp [*]; done), by repeat (first | exact Drawn0.refl _ | apply Drawn0.step)⟩
 ·rw [if_neg c2] at H
  have c2b0 : decide (a0 < 1) = false := decide_eq_false c2; clear c2
  by_cases c3 : a0 > 10
  ·rw [if_pos c3] at H
   have c3b0 : decide (10 < a0) = true := decide_eq_true c3; clear c3; obtain rfl := Option.some.inj H; go_enter Try.func20, Try.ntmps20
   go_wp2
   go_ret; exact ⟨by first | rfl | (simp; done) | (simp [*]; done), by repeat (first | exact Drawn0.refl _ | apply Drawn0.step)⟩
  ·rw [if_neg c3] at H
   have c3b0 : decide (10 < a0) = false := decide_eq_false c3; clear c3
   by_cases c4 : a0 = 0
   ·rw [if_pos c4] at H
    exact absurd H (by simp)
   ·rw [if_neg c4] at H
    have c4b0 : (a0 == 0) = false := beq_eq_false_iff_ne.mpr c4; have c4b1 : (a0 != 0) = true := bne_iff_ne.mpr c4; obtain rfl := Option.some.inj H; go_enter Try.func20, Try.ntmps20
    go_wp2
    go_ret; exact ⟨by first | rfl | (simp; done) | (simp [*]; done), by repeat (first | exact Drawn0.refl _ | apply Drawn0.step)⟩

/-! ### spec_VecTop: function 47 -/
def spec_VecTop.f (a0_0 a0_1 a0_2 : Int) : Option (Int) := some (mx (mx a0_0 a0_1) a0_2)
set_option maxHeartbeats 8000000 in
set_option maxRecDepth 100000 in
theorem spec_VecTop.calls (a0_0 a0_1 a0_2 r : Int) (w : World) (h : spec_VecTop.f a0_0 a0_1 a0_2 = some r) :
  Calls Try.prog 47 #[.agg #[I L a0_0, I L a0_1, I L a0_2]] w fun e w' => e = .returned (I L r) ∧ Below w.heap.size w w' := by
 have hu29 := Try.underlying29
 have HB := D (Below.refl w.heap.size w)
 have H : (some (mx (mx a0_0 a0_1) a0_2)) = some r := h
 clear h
 obtain ⟨ji2, hji2⟩ : ∃ j_ : Int, (mx a0_0 a0_1) = j_ := ⟨_, rfl⟩
 replace H : (some (mx (ji2) a0_2)) = some r := by first | (rw [hji2] at H; exact H) | (simp only [hji2] at H ⊢; exact H)
 have hji2_ : (if a0_0 < a0_1 then a0_1 else a0_0) = ji2 := hji2
 obtain ⟨ji3, hji3⟩ : ∃ j_ : Int, (mx (ji2) a0_2) = j_ := ⟨_, rfl⟩
 replace H : (some ji3) = some r := by first | (rw [hji3] at H; exact H) | (simp only [hji3] at H ⊢; exact H)
 have hji3_ : (if (ji2) < a0_2 then a0_2 else (ji2)) = ji3 := hji3
 obtain rfl := Option.some.inj H
 go_enter Try.func47, Try.ntmps47
 go_wp2_with (first|((with_reducible refine gate_dst (N:=1) rfl ?_);refine bx_ (N:=1) (cs:=#[I L a0_0,I L a0_1,I L a0_2]) (t:=29) ?_;intro gb107 hg w4 hbox hb;have n_:=an_ (below_step (pB_ HB.out) hb)<|an_ (hbox)<|an_ (bg_ hg (pB_ HB.out):w.heap.size≤gb107)<|D (bg_ hg (pB_ HB.out):w.heap.size≤gb107);clear HB;obtain ⟨HB,BK107,GW107,GE107⟩:=n_;clear hb hbox hg;have hcz5_0:=cells3 BK107.out))
 go_ret
 exact ⟨by first|rfl|(simp [errW_none,errW_some] <;> rfl)|(simp only [← hji2,← hji3];first|rfl|(simp [errW_none,errW_some] <;> rfl))|(simp [*,errW_none,errW_some] <;> rfl),pB_ HB.out⟩

/-! ### spec_l13Delta: function 59 -/
def spec_l13Delta.f (a0 : Int) : Option (Bool) := if a0 ≥ 0 then (some (decide (a0 ≤ 10000000))) else (some false)
set_option maxHeartbeats 8000000 in
set_option maxRecDepth 100000 in
theorem spec_l13Delta.calls (a0 : Int) (r : Bool) (w : World) (h : spec_l13Delta.f a0 = some r) :
  Calls Try.prog 59 #[I L a0] w fun e w' => e = .returned (.bool r) ∧ Drawn0 w w' := by
 have H : (if a0 ≥ 0 then (some (decide (a0 ≤ 10000000))) else (some false)) = some r := h
 clear h
 by_cases c2 : a0 ≥ 0
 ·rw [if_pos c2] at H
  have c2b0 : decide (0 ≤ a0) = true := decide_eq_true c2; clear c2; obtain rfl := Option.some.inj H; go_enter Try.func59, Try.ntmps59
  go_wp2
  go_ret; exact ⟨by first | rfl | (simp; done) | (simp [*]; done), by repeat (first | exact Drawn0.refl _ | apply Drawn0.step)⟩
 ·rw [if_neg c2] at H
  have c2b0 : decide (0 ≤ a0) = false := decide_eq_false c2; clear c2; obtain rfl := Option.some.inj H; go_enter Try.func59, Try.ntmps59
  go_wp2
  go_ret; exact ⟨by first | rfl | (simp; done) | (simp [*]; done), by repeat (first | exact Drawn0.refl _ | apply Drawn0.step)⟩

/-! ### spec_l13All: function 40 -/
def spec_l13All.f (a0_0 a0_1 a0_2 a1 a2 : Int) : Option (Bool) := if a0_0 ≥ a1 then (if a0_0 ≤ a2 then (if a0_1 ≥ a1 then (if a0_1 ≤ a2 then (if a0_2 ≥ a1 then (some (decide (a0_2 ≤ a2))) else (some false)) else (some false)) else (some false)) else (some false)) else (some false)
set_option maxHeartbeats 8000000 in
set_option maxRecDepth 100000 in
theorem spec_l13All.calls (a0_0 a0_1 a0_2 a1 a2 : Int) (r : Bool) (w : World) (h : spec_l13All.f a0_0 a0_1 a0_2 a1 a2 = some r) :
  Calls Try.prog 40 #[.agg #[I L a0_0, I L a0_1, I L a0_2], I L a1, I L a2] w fun e w' => e = .returned (.bool r) ∧ Below w.heap.size w w' := by
 have hu29 := Try.underlying29
 have HB := D (Below.refl w.heap.size w)
 have H:(if a0_0 ≥ a1 then (if a0_0≤a2 then (if a0_1 ≥ a1 then (if a0_1≤a2 then (if a0_2 ≥ a1 then (some (decide (a0_2≤a2))) else (some false)) else (some false)) else (some false)) else (some false)) else (some false))=some r:=h
 clear h
 by_cases c4 : a0_0 ≥ a1
 ·rw [if_pos c4] at H
  have c4b0 : decide (a1 ≤ a0_0) = true := decide_eq_true c4; clear c4
  by_cases c5 : a0_0 ≤ a2
  ·rw [if_pos c5] at H
   have c5b0 : decide (a0_0 ≤ a2) = true := decide_eq_true c5; clear c5
   by_cases c6 : a0_1 ≥ a1
   ·rw [if_pos c6] at H
    have c6b0 : decide (a1 ≤ a0_1) = true := decide_eq_true c6; clear c6
    by_cases c7 : a0_1 ≤ a2
    ·rw [if_pos c7] at H
     have c7b0 : decide (a0_1 ≤ a2) = true := decide_eq_true c7; clear c7
     by_cases c8 : a0_2 ≥ a1
     ·rw [if_pos c8] at H
      have c8b0 : decide (a1 ≤ a0_2) = true := decide_eq_true c8; clear c8; obtain rfl := Option.some.inj H; go_enter Try.func40, Try.ntmps40
      go_wp2_with (first|((with_reducible refine gate_dst (N:=3) rfl ?_);refine bx_ (N:=3) (cs:=#[I L a0_0,I L a0_1,I L a0_2]) (t:=29) ?_;intro gb108 hg w9 hbox hb;have n_:=an_ (below_step (pB_ HB.out) hb)<|an_ (hbox)<|an_ (bg_ hg (pB_ HB.out):w.heap.size≤gb108)<|D (bg_ hg (pB_ HB.out):w.heap.size≤gb108);clear HB;obtain ⟨HB,BK108,GW108,GE108⟩:=n_;clear hb hbox hg;have hcz10_0:=cells3 BK108.out))
      go_ret; exact ⟨er_, pB_ HB.out⟩
     ·rw [if_neg c8] at H
      have c8b0 : decide (a1 ≤ a0_2) = false := decide_eq_false c8; clear c8; obtain rfl := Option.some.inj H; go_enter Try.func40, Try.ntmps40
      go_wp2_with (first|((with_reducible refine gate_dst (N:=3) rfl ?_);refine bx_ (N:=3) (cs:=#[I L a0_0,I L a0_1,I L a0_2]) (t:=29) ?_;intro gb108 hg w11 hbox hb;have n_:=an_ (below_step (pB_ HB.out) hb)<|an_ (hbox)<|an_ (bg_ hg (pB_ HB.out):w.heap.size≤gb108)<|D (bg_ hg (pB_ HB.out):w.heap.size≤gb108);clear HB;obtain ⟨HB,BK108,GW108,GE108⟩:=n_;clear hb hbox hg;have hcz12_0:=cells3 BK108.out))
      go_ret; exact ⟨er_, pB_ HB.out⟩
    ·rw [if_neg c7] at H
     have c7b0 : decide (a0_1 ≤ a2) = false := decide_eq_false c7; clear c7; obtain rfl := Option.some.inj H; go_enter Try.func40, Try.ntmps40
     go_wp2_with (first|((with_reducible refine gate_dst (N:=3) rfl ?_);refine bx_ (N:=3) (cs:=#[I L a0_0,I L a0_1,I L a0_2]) (t:=29) ?_;intro gb108 hg w13 hbox hb;have n_:=an_ (below_step (pB_ HB.out) hb)<|an_ (hbox)<|an_ (bg_ hg (pB_ HB.out):w.heap.size≤gb108)<|D (bg_ hg (pB_ HB.out):w.heap.size≤gb108);clear HB;obtain ⟨HB,BK108,GW108,GE108⟩:=n_;clear hb hbox hg;have hcz14_0:=cells3 BK108.out))
     go_ret; exact ⟨er_, pB_ HB.out⟩
   ·rw [if_neg c6] at H
    have c6b0 : decide (a1 ≤ a0_1) = false := decide_eq_false c6; clear c6; obtain rfl := Option.some.inj H; go_enter Try.func40, Try.ntmps40
    go_wp2_with (first|((with_reducible refine gate_dst (N:=3) rfl ?_);refine bx_ (N:=3) (cs:=#[I L a0_0,I L a0_1,I L a0_2]) (t:=29) ?_;intro gb108 hg w15 hbox hb;have n_:=an_ (below_step (pB_ HB.out) hb)<|an_ (hbox)<|an_ (bg_ hg (pB_ HB.out):w.heap.size≤gb108)<|D (bg_ hg (pB_ HB.out):w.heap.size≤gb108);clear HB;obtain ⟨HB,BK108,GW108,GE108⟩:=n_;clear hb hbox hg;have hcz16_0:=cells3 BK108.out))
    go_ret; exact ⟨er_, pB_ HB.out⟩
  ·rw [if_neg c5] at H
   have c5b0 : decide (a0_0 ≤ a2) = false := decide_eq_false c5; clear c5; obtain rfl := Option.some.inj H; go_enter Try.func40, Try.ntmps40
   go_wp2_with (first|((with_reducible refine gate_dst (N:=3) rfl ?_);refine bx_ (N:=3) (cs:=#[I L a0_0,I L a0_1,I L a0_2]) (t:=29) ?_;intro gb108 hg w17 hbox hb;have n_:=an_ (below_step (pB_ HB.out) hb)<|an_ (hbox)<|an_ (bg_ hg (pB_ HB.out):w.heap.size≤gb108)<|D (bg_ hg (pB_ HB.out):w.heap.size≤gb108);clear HB;obtain ⟨HB,BK108,GW108,GE108⟩:=n_;clear hb hbox hg;have hcz18_0:=cells3 BK108.out))
   go_ret; exact ⟨er_, pB_ HB.out⟩
 ·rw [if_neg c4] at H
  have c4b0 : decide (a1 ≤ a0_0) = false := decide_eq_false c4; clear c4; obtain rfl := Option.some.inj H; go_enter Try.func40, Try.ntmps40
  go_wp2_with (first|((with_reducible refine gate_dst (N:=3) rfl ?_);refine bx_ (N:=3) (cs:=#[I L a0_0,I L a0_1,I L a0_2]) (t:=29) ?_;intro gb108 hg w19 hbox hb;have n_:=an_ (below_step (pB_ HB.out) hb)<|an_ (hbox)<|an_ (bg_ hg (pB_ HB.out):w.heap.size≤gb108)<|D (bg_ hg (pB_ HB.out):w.heap.size≤gb108);clear HB;obtain ⟨HB,BK108,GW108,GE108⟩:=n_;clear hb hbox hg;have hcz20_0:=cells3 BK108.out))
  go_ret; exact ⟨er_, pB_ HB.out⟩

/-! ### spec_TagOk: function 80 -/
def spec_TagOk.f (a0_0 a0_1 a0_2 : Int) : Option (Bool) := (spec_l13All.f a0_0 a0_1 a0_2 0 1000000000000).bind fun t110 => (some t110)
set_option maxHeartbeats 8000000 in
set_option maxRecDepth 100000 in
theorem spec_TagOk.calls (a0_0 a0_1 a0_2 : Int) (r : Bool) (w : World) (h : spec_TagOk.f a0_0 a0_1 a0_2 = some r) :
  Calls Try.prog 80 #[.agg #[I L a0_0, I L a0_1, I L a0_2]] w fun e w' => e = .returned (.bool r) ∧ Below w.heap.size w w' := by
 have hu29 := Try.underlying29
 have HB := D (Below.refl w.heap.size w)
 have H : ((spec_l13All.f a0_0 a0_1 a0_2 0 1000000000000).bind fun t110 => (some t110)) = some r := h
 clear h
 obtain ⟨t110, A20, H⟩ := bs_.mp H
 (try dsimp only at H)
 have A2 := D A20
 clear A20
 obtain rfl := Option.some.inj H
 go_enter Try.func80, Try.ntmps80
 go_wp2_with (first|((with_reducible refine gate_dst (N:=1) rfl ?_);refine bx_ (N:=1) (cs:=#[I L a0_0,I L a0_1,I L a0_2]) (t:=29) ?_;intro gb109 hg w3 hbox hb;have n_:=an_ (below_step (pB_ HB.out) hb)<|an_ (hbox)<|an_ (bg_ hg (pB_ HB.out):w.heap.size≤gb109)<|D (bg_ hg (pB_ HB.out):w.heap.size≤gb109);clear HB;obtain ⟨HB,BK109,GW109,GE109⟩:=n_;clear hb hbox hg;have hcz4_0:=cells3 BK109.out)|((with_reducible refine gate_callee (f:=40) rfl ?_);refine goesL_ (some 4) rfl rfl Try.func40 (by kernel_rfl) rfl #[.agg #[I L a0_0,I L a0_1,I L a0_2],I L 0,I L 1000000000000] rfl Z20 ?_;(with_reducible refine (spec_l13All.calls a0_0 a0_1 a0_2 0 1000000000000 t110 _ A2.out).mono ?_);rintro e w5 ⟨rfl,hb⟩;refine ⟨_,rfl,?_⟩;have n_:=an_ (blk_below (pk_ BK109.out) hb)<|D (below_step (pB_ HB.out) hb);clear BK109 HB;obtain ⟨BK109,HB⟩:=n_;(try clear hb)))
 go_ret
 exact ⟨er_, pB_ HB.out⟩

/-! ### spec_Narrow: function 67 -/
def spec_Narrow.f (a0_0 a0_1 a0_2 a1 : Int) : Option (Bool) := (spec_TagOk.f a0_0 a0_1 a0_2).bind fun t112 => (if t112 = true then ((spec_l13Delta.f a1).bind fun t113 => (if t113 = true then ((spec_VecTop.f a0_0 a0_1 a0_2).bind fun t114 => (some (decide ((mn (mn a0_0 a0_1) a0_2) ≥ (wrap64 (t114 - a1)))))) else (some false))) else (some false))
def spec_Narrow.T1 : Bool × List (List Nat × List Nat) := (true, [([], []), ([0], [0]), ([1, 1], [1]), ([2], [2]), ([3, 2, 2], [2, 3]), ([2, 4], [2, 4]), ([5, 4], [5]), ([6], [6]), ([7, 6], [6, 7]), ([6], [6]), ([9, 6], [6, 9]), ([6], [6]), ([11, 6], [6, 11]), ([8, 10, 12, 6], [6, 8, 10, 12]), ([6], [6]), ([14, 6, 6], [6, 14]), ([6], [6]), ([15, 16, 6], [6, 15, 16]), ([13, 17, 6], [6, 13, 17]), ([6, 18], [6, 18]), ([19, 15, 0, 1, 2, 3, 4, 5, 6, 7, 8, 9, 10, 11, 12, 13, 14, 15, 16, 17, 18, 19], [19])])
def spec_Narrow.B1 : List Nat := [0, 1, 3, 7, 15, 31, 63, 127, 255, 127, 639, 127, 2175, 8191, 127, 16511, 127, 114815, 262143, 524287, 1048575]
theorem spec_Narrow.tab1 : rtab .any (opsOf Try.f67 1) = spec_Narrow.T1 := by kernel_rfl
theorem spec_Narrow.bits1 : waitsOk spec_Narrow.T1.2 spec_Narrow.B1 = true := by kernel_rfl
set_option maxHeartbeats 8000000 in
set_option maxRecDepth 100000 in
theorem spec_Narrow.calls (a0_0 a0_1 a0_2 a1 : Int) (r : Bool) (w : World) (h : spec_Narrow.f a0_0 a0_1 a0_2 a1 = some r) :
  Calls Try.prog 67 #[.agg #[I L a0_0, I L a0_1, I L a0_2], I L a1] w fun e w' => e = .returned (.bool r) ∧ Below w.heap.size w w' := by
 have hu29 := Try.underlying29
 have HB := D (Below.refl w.heap.size w)
 have H:((spec_TagOk.f a0_0 a0_1 a0_2).bind fun t112=>(if t112=true then ((spec_l13Delta.f a1).bind fun t113=>(if t113=true then ((spec_VecTop.f a0_0 a0_1 a0_2).bind fun t114=>(some (decide ((mn (mn a0_0 a0_1) a0_2) ≥ (wrap64 (t114 - a1)))))) else (some false))) else (some false)))=some r:=h
 clear h
 obtain ⟨t112, A30, H⟩ := bs_.mp H
 (try dsimp only at H)
 have A3 := D A30
 clear A30
 by_cases c4 : t112 = true
 ·subst c4
  rw [if_pos rfl] at H; obtain ⟨t113, A50, H⟩ := bs_.mp H; (try dsimp only at H); have A5 := D A50; clear A50
  by_cases c6 : t113 = true
  ·subst c6
   rw [if_pos rfl] at H; obtain ⟨ji7, hji7⟩ : ∃ j_ : Int, (mn a0_0 a0_1) = j_ := ⟨_, rfl⟩
   replace H:((spec_VecTop.f a0_0 a0_1 a0_2).bind fun t114=>(some (decide ((mn (ji7) a0_2) ≥ (wrap64 (t114 - a1))))))=some r:=by first|(rw [hji7] at H;exact H)|(simp only [hji7] at H ⊢;exact H)
   (try rw [hji7] at A3); (try rw [hji7] at A5); have hji7_ : (if a0_1 < a0_0 then a0_1 else a0_0) = ji7 := hji7; obtain ⟨ji8, hji8⟩ : ∃ j_ : Int, (mn (ji7) a0_2) = j_ := ⟨_, rfl⟩
   replace H : ((spec_VecTop.f a0_0 a0_1 a0_2).bind fun t114 => (some (decide ((ji8) ≥ (wrap64 (t114 - a1)))))) = some r := by first | (rw [hji8] at H; exact H) | (simp only [hji8] at H ⊢; exact H)
   (try rw [hji8] at A3);(try rw [hji8] at A5);have hji8_:(if a0_2 < (ji7) then a0_2 else (ji7))=ji8:=hji8;obtain ⟨t114,A90,H⟩:=bs_.mp H;(try dsimp only at H);have A9:=D A90;clear A90;obtain rfl:=Option.some.inj H;go_enter Try.func67,Try.ntmps67
   try go_wp2_with (first|((with_reducible refine gate_dst (N:=2) rfl ?_);(try (refine gate_guard (by rfl) ?_;dsimp only));refine bx_ (N:=2) (cs:=#[I L a0_0,I L a0_1,I L a0_2]) (t:=29) ?_;intro gb111 hg w10 hbox hb;have n_:=an_ (below_step (pB_ HB.out) hb)<|an_ (hbox)<|an_ (bg_ hg (pB_ HB.out):w.heap.size≤gb111)<|D (bg_ hg (pB_ HB.out):w.heap.size≤gb111);clear HB;obtain ⟨HB,BK111,GW111,GE111⟩:=n_;clear hb hbox hg))
   have n_ := an_ (blk_drew BK111.out) <| D (below_drew1 HB.out)
   clear BK111 HB;obtain ⟨BK111,HB⟩:=n_;refine start_ (n:=21) (S:=fun w'=>w'.cell? ⟨gb111,0,none⟩=some (I L a0_0)∧w'.cell? ⟨gb111,1,none⟩=some (I L a0_1)∧w'.cell? ⟨gb111,2,none⟩=some (I L a0_2)) (ds:=[]) (bz 21 0) (by kernel_rfl) rfl (by kernel_rfl) (be3_ BK111.out) (fun hHeld=>?_);refine with_tabW spec_Narrow.tab1 spec_Narrow.bits1 (fun HT_ HW_=>?_);generalize w10.drew=w11 at BK111 HB hHeld ⊢;refine tb_ 0 rfl rfl hHeld Z67 ?_;refine oa_ 1 6 21 3 HT_ (fun K hK=>?_);refine goes_ Try.func80 (by kernel_rfl) rfl #[.agg #[I L a0_0,I L a0_1,I L a0_2]] (by rfl) rfl rfl Z20 ?_;with_reducible refine (spec_TagOk.calls a0_0 a0_1 a0_2 true _ A3.out).mono ?_
   rintro e w12 ⟨rfl, hb⟩; refine ⟨_, rfl, ?_⟩
   have n_ := an_ (blk_below (pk_ BK111.out) hb) <| D (below_step (pB_ HB.out) hb)
   clear BK111 HB;obtain ⟨BK111,HB⟩:=n_;refine hK.out _ _ (be3_ BK111.out) (fun hHeld=>?_);clear hK K;refine nx_ (N:=some 6) ?_;refine pb_ 2 ?_;refine pb_ 3 ?_;refine oa_ 4 9 21 31 HT_ (fun K hK=>?_);refine goes_ Try.func59 (by kernel_rfl) rfl #[I L a1] (by rfl) rfl rfl Z20 ?_;with_reducible refine (spec_l13Delta.calls a1 true _ A5.out).mono ?_
   rintro e w' ⟨rfl,⟨nd,rfl⟩⟩;refine ⟨_,rfl,?_⟩;refine hK.out _ _ (be3_ BK111.out) (fun hHeld=>?_);clear hK K;refine nx_ (N:=some 9) ?_;refine pb_ 5 ?_;refine pb_ 6 ?_;refine pb_ 7 ?_;refine pb_ 9 ?_;refine pb_ 11 ?_;refine pb_ 16 ?_;refine tb_ 8 rfl rfl hHeld Z67 ?_;refine tb_ 10 rfl rfl hHeld Z67 ?_;refine tb_ 12 rfl rfl hHeld Z67 ?_;refine pb_ 13 ?_;refine tb_ 14 rfl rfl hHeld Z67 ?_;refine oa_ 15 20 21 131071 HT_ (fun K hK=>?_);refine goes_ Try.func47 (by kernel_rfl) rfl #[.agg #[I L a0_0,I L a0_1,I L a0_2]] (by rfl) rfl rfl Z20 ?_;with_reducible refine (spec_VecTop.calls a0_0 a0_1 a0_2 t114 _ A9.out).mono ?_
   rintro e w13 ⟨rfl, hb⟩; refine ⟨_, rfl, ?_⟩
   have n_ := an_ (blk_below (pk_ BK111.out) hb) <| D (below_step (pB_ HB.out) hb)
   clear BK111 HB;obtain ⟨BK111,HB⟩:=n_;refine hK.out _ _ (be3_ BK111.out) (fun hHeld=>?_);clear hK K;refine nx_ (N:=some 20) ?_;refine pb_ 17 ?_;refine pb_ 18 ?_;refine pb_ 19 ?_;refine pb_ 20 ?_;refine done_ (done_of HT_.out (by kernel_rfl)) ?_
   try go_wp2
   go_ret;exact ⟨by first|rfl|(simp [errW_none,errW_some] <;> rfl)|(simp only [← hji7,← hji8];first|rfl|(simp [errW_none,errW_some] <;> rfl))|(simp [*,errW_none,errW_some] <;> rfl),pB_ HB.out⟩
  ·replace c6 := Bool.eq_false_iff.mpr c6
   subst c6; rw [if_neg (show ¬ (false = true) by decide)] at H; obtain rfl := Option.some.inj H; go_enter Try.func67, Try.ntmps67
   try go_wp2_with (first|((with_reducible refine gate_dst (N:=2) rfl ?_);(try (refine gate_guard (by rfl) ?_;dsimp only));refine bx_ (N:=2) (cs:=#[I L a0_0,I L a0_1,I L a0_2]) (t:=29) ?_;intro gb111 hg w14 hbox hb;have n_:=an_ (below_step (pB_ HB.out) hb)<|an_ (hbox)<|an_ (bg_ hg (pB_ HB.out):w.heap.size≤gb111)<|D (bg_ hg (pB_ HB.out):w.heap.size≤gb111);clear HB;obtain ⟨HB,BK111,GW111,GE111⟩:=n_;clear hb hbox hg))
   (try (rw [drewN_self w14];generalize hq_:World.drewN w14 _=w14;have n0_:Aside0 (w14.heap[gb111]?=some (.cells #[I L a0_0,I L a0_1,I L a0_2] 29 (0,0))):=⟨by rw [← hq_];exact (pk_ BK111.out)⟩;have n1_:Aside0 (Below w.heap.size w w14):=⟨by rw [← hq_];exact (pB_ HB.out)⟩;clear BK111 HB hq_;have BK111:=n0_;have HB:=n1_;clear n0_ n1_))
   have n_ := an_ (blk_drew BK111.out) <| D (below_drew1 HB.out)
   clear BK111 HB;obtain ⟨BK111,HB⟩:=n_;refine start_ (n:=21) (S:=fun w'=>w'.cell? ⟨gb111,0,none⟩=some (I L a0_0)∧w'.cell? ⟨gb111,1,none⟩=some (I L a0_1)∧w'.cell? ⟨gb111,2,none⟩=some (I L a0_2)) (ds:=[]) (bz 21 0) (by kernel_rfl) rfl (by kernel_rfl) (be3_ BK111.out) (fun hHeld=>?_);refine with_tabW spec_Narrow.tab1 spec_Narrow.bits1 (fun HT_ HW_=>?_);generalize w14.drew=w15 at BK111 HB hHeld ⊢;refine tb_ 0 rfl rfl hHeld Z67 ?_;refine oa_ 1 6 21 3 HT_ (fun K hK=>?_);refine goes_ Try.func80 (by kernel_rfl) rfl #[.agg #[I L a0_0,I L a0_1,I L a0_2]] (by rfl) rfl rfl Z20 ?_;with_reducible refine (spec_TagOk.calls a0_0 a0_1 a0_2 true _ A3.out).mono ?_
   rintro e w16 ⟨rfl, hb⟩; refine ⟨_, rfl, ?_⟩
   have n_ := an_ (blk_below (pk_ BK111.out) hb) <| D (below_step (pB_ HB.out) hb)
   clear BK111 HB;obtain ⟨BK111,HB⟩:=n_;refine hK.out _ _ (be3_ BK111.out) (fun hHeld=>?_);clear hK K;refine nx_ (N:=some 6) ?_;refine pb_ 2 ?_;refine pb_ 3 ?_;refine oa_ 4 9 21 31 HT_ (fun K hK=>?_);refine goes_ Try.func59 (by kernel_rfl) rfl #[I L a1] (by rfl) rfl rfl Z20 ?_;with_reducible refine (spec_l13Delta.calls a1 false _ A5.out).mono ?_
   rintro e w' ⟨rfl,⟨nd,rfl⟩⟩;refine ⟨_,rfl,?_⟩;refine hK.out _ _ (be3_ BK111.out) (fun hHeld=>?_);clear hK K;refine nx_ (N:=some 9) ?_;refine pb_ 5 ?_;refine pb_ 6 ?_;refine ob_ 7 ?_;refine ob_ 8 ?_;refine ob_ 9 ?_;refine ob_ 10 ?_;refine ob_ 11 ?_;refine ob_ 12 ?_;refine ob_ 13 ?_;refine ob_ 14 ?_;refine ob_ 15 ?_;refine ob_ 16 ?_;refine ob_ 17 ?_;refine ob_ 18 ?_;refine pb_ 19 ?_;refine pb_ 20 ?_;refine done_ (done_of HT_.out (by kernel_rfl)) ?_
   try go_wp2
   go_ret; exact ⟨er_, pB_ HB.out⟩
 ·replace c4 := Bool.eq_false_iff.mpr c4
  subst c4; rw [if_neg (show ¬ (false = true) by decide)] at H; obtain rfl := Option.some.inj H; go_enter Try.func67, Try.ntmps67
  try go_wp2_with (first|((with_reducible refine gate_dst (N:=2) rfl ?_);(try (refine gate_guard (by rfl) ?_;dsimp only));refine bx_ (N:=2) (cs:=#[I L a0_0,I L a0_1,I L a0_2]) (t:=29) ?_;intro gb111 hg w17 hbox hb;have n_:=an_ (below_step (pB_ HB.out) hb)<|an_ (hbox)<|an_ (bg_ hg (pB_ HB.out):w.heap.size≤gb111)<|D (bg_ hg (pB_ HB.out):w.heap.size≤gb111);clear HB;obtain ⟨HB,BK111,GW111,GE111⟩:=n_;clear hb hbox hg))
  (try (rw [drewN_self w17];generalize hq_:World.drewN w17 _=w17;have n0_:Aside0 (w17.heap[gb111]?=some (.cells #[I L a0_0,I L a0_1,I L a0_2] 29 (0,0))):=⟨by rw [← hq_];exact (pk_ BK111.out)⟩;have n1_:Aside0 (Below w.heap.size w w17):=⟨by rw [← hq_];exact (pB_ HB.out)⟩;clear BK111 HB hq_;have BK111:=n0_;have HB:=n1_;clear n0_ n1_))
  have n_ := an_ (blk_drew BK111.out) <| D (below_drew1 HB.out)
  clear BK111 HB;obtain ⟨BK111,HB⟩:=n_;refine start_ (n:=21) (S:=fun w'=>w'.cell? ⟨gb111,0,none⟩=some (I L a0_0)∧w'.cell? ⟨gb111,1,none⟩=some (I L a0_1)∧w'.cell? ⟨gb111,2,none⟩=some (I L a0_2)) (ds:=[]) (bz 21 0) (by kernel_rfl) rfl (by kernel_rfl) (be3_ BK111.out) (fun hHeld=>?_);refine with_tabW spec_Narrow.tab1 spec_Narrow.bits1 (fun HT_ HW_=>?_);generalize w17.drew=w18 at BK111 HB hHeld ⊢;refine tb_ 0 rfl rfl hHeld Z67 ?_;refine oa_ 1 6 21 3 HT_ (fun K hK=>?_);refine goes_ Try.func80 (by kernel_rfl) rfl #[.agg #[I L a0_0,I L a0_1,I L a0_2]] (by rfl) rfl rfl Z20 ?_;with_reducible refine (spec_TagOk.calls a0_0 a0_1 a0_2 false _ A3.out).mono ?_
  rintro e w19 ⟨rfl, hb⟩; refine ⟨_, rfl, ?_⟩
  have n_ := an_ (blk_below (pk_ BK111.out) hb) <| D (below_step (pB_ HB.out) hb)
  clear BK111 HB;obtain ⟨BK111,HB⟩:=n_;refine hK.out _ _ (be3_ BK111.out) (fun hHeld=>?_);clear hK K;refine nx_ (N:=some 6) ?_;refine pb_ 2 ?_;refine ob_ 3 ?_;refine ob_ 4 ?_;refine pb_ 5 ?_;refine pb_ 6 ?_;refine ob_ 7 ?_;refine ob_ 8 ?_;refine ob_ 9 ?_;refine ob_ 10 ?_;refine ob_ 11 ?_;refine ob_ 12 ?_;refine ob_ 13 ?_;refine ob_ 14 ?_;refine ob_ 15 ?_;refine ob_ 16 ?_;refine ob_ 17 ?_;refine ob_ 18 ?_;refine pb_ 19 ?_;refine pb_ 20 ?_;refine done_ (done_of HT_.out (by kernel_rfl)) ?_
  try go_wp2
  go_ret; exact ⟨er_, pB_ HB.out⟩

end Go.Proofs.Ytpkdkhhknmlpjaa.PFnTakenAdds
