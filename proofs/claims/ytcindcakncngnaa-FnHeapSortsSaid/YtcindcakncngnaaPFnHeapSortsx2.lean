-- by a program of this session's, over the kit's words
import Derived.Test.YtcindcakncngnaaPZFnHeapSorts
import Derived.Test.YtcindcakncngnaaPFnHeapSortsx0
namespace Go.Proofs.Ytcindcakncngnaa.PFnHeapSorts
open Go.RowKit Go.Proofs.YtcindcakncngnaaW.PrintWords Go.Proofs.YtcindcakncngnaaW.PrintLast Go.Proofs.YtcindcakncngnaaW.PrintMore Go.Proofs.YtcindcakncngnaaV Go.Proofs.Ytcindcakncngnaa.ZFnHeapSorts
open Go.Value renaming int → I, slice → Y
open Go.IntKind renaming i64 → L
open Aside0 renaming mk → D
open Option renaming bind_eq_some_iff → bs_
attribute [local go_sem] max2_int min2_int max_two min_two max_three min_three max_four min_four   -- for this text's walks alone
set_option linter.unusedVariables false
set_option linter.unusedSimpArgs false

/-! ### laws_big: function 4 -/
def laws_big.f (l0 : List Int) : Option (Bool) := some (decide ((l0.length : Int) > 1048576))
set_option maxHeartbeats 8000000 in
set_option maxRecDepth 100000 in
theorem laws_big.calls (A0 : Option Addr) (c0 : Nat) (l0 : List Int) (r : Bool) (w : World) (hr0 : Kd.C (Kd.int .u8) w A0 l0.length l0) (hc0 : l0.length ≤ c0) (h : laws_big.f l0 = some r) :
  Calls Try.prog 4 #[Y A0 l0.length c0] w fun e w' => e = .returned (.bool r) ∧ Drawn0 w w' := by
 have HR0 := D hr0
 have HC0 := D hc0
 clear hr0 hc0
 have H : (some (decide ((l0.length : Int) > 1048576))) = some r := h
 clear h
 obtain rfl := Option.some.inj H
 go_enter Try.func4, Try.ntmps4
 go_wp2
 go_ret
 exact ⟨by first | rfl | (simp; done) | (simp [*]; done), by repeat (first | exact Drawn0.refl _ | apply Drawn0.step)⟩

/-- A state of type 47 at block g of W; what its slices lead to came in by w0. -/
def IsS47 (w0 W : World) (g : Nat) (f0 : List Int) (f1 f2 : Int) : Prop := ∃ A0 c0, W.heap[g]? = some (.cells #[Y A0 f0.length c0, I L f1, I L f2] 47 (0, 0)) ∧ w0.heap.size ≤ g ∧ Kd.C (Kd.int .u8) w0 A0 f0.length f0
theorem IsS47.grown {w0 W : World} {g : Nat} {f0 : List Int} {f1 : Int} {f2 : Int} {W1 : World} {row : Option Nat} (h : IsS47 w0 W g f0 f1 f2) (hw : W.grownBy W1 row) (hne : some g ≠ row) : IsS47 w0 W1 g f0 f1 f2 := by
 obtain ⟨A0, c0, hb, hg, hr0⟩ := h
 exact ⟨A0, c0, blk_grown hb hw hne, hg, hr0⟩
theorem IsS47.own_neN {w0 W : World} {g : Nat} {f0 : List Int} {f1 : Int} {f2 : Int} {α : Type} {d : Kd α} {e : Nat} {base : Nat} {ok : Nat → Prop} {v : Value} {xs : List α} (h : IsS47 w0 W g f0 f1 f2) (ho : Kd.N d e W base ok v xs) (ht : e ≠ 47) : some g ≠ v.ownBlock := by
 obtain ⟨A0, c0, hb, hg, hr0⟩ := h
 exact Kd.N_ne ho hb ht
theorem IsS47.fresh {w0 W : World} {g : Nat} {f0 : List Int} {f1 : Int} {f2 : Int} (h : IsS47 w0 W g f0 f1 f2) : ∀ k, W.heap.size ≤ k → k ≠ g := by
 obtain ⟨A0, c0, hb, hg, hr0⟩ := h
 exact Kd.freshB hb
theorem IsS47.kept {w0 W : World} {g : Nat} {f0 : List Int} {f1 : Int} {f2 : Int} {W1 : World} {S : Nat → Prop} (h : IsS47 w0 W g f0 f1 f2) (hk : Kept W W1 S) (hne : ¬ S g) : IsS47 w0 W1 g f0 f1 f2 := by
 obtain ⟨A0, c0, hb, hg, hr0⟩ := h
 exact ⟨A0, c0, blk_kept hb hk hne, hg, hr0⟩
theorem IsS47.below {w0 W : World} {g : Nat} {f0 : List Int} {f1 : Int} {f2 : Int} {W1 : World} (h : IsS47 w0 W g f0 f1 f2) (hw : Below W.heap.size W W1) : IsS47 w0 W1 g f0 f1 f2 := h.grown (grown_of_below hw none) (by simp)
theorem IsS47.alloc {w0 W : World} {g : Nat} {f0 : List Int} {f1 : Int} {f2 : Int} (h : IsS47 w0 W g f0 f1 f2) (o : Obj) : IsS47 w0 (W.alloc o) g f0 f1 f2 := h.below (below_alloc (Below.refl _ _) o)
theorem IsS47.drewN {w0 W : World} {g : Nat} {f0 : List Int} {f1 : Int} {f2 : Int} (h : IsS47 w0 W g f0 f1 f2) (m : Nat) : IsS47 w0 (W.drewN m) g f0 f1 f2 := h
theorem IsS47.drew {w0 W : World} {g : Nat} {f0 : List Int} {f1 : Int} {f2 : Int} (h : IsS47 w0 W g f0 f1 f2) : IsS47 w0 W.drew g f0 f1 f2 := h
theorem IsS47.at_ {w0 W : World} {g : Nat} {f0 : List Int} {f1 : Int} {f2 : Int} {w' : World} {m : Nat} (hq : W.drewN m = w') (h : IsS47 w0 W g f0 f1 f2) : IsS47 w0 w' g f0 f1 f2 := by subst hq; exact IsS47.drewN h m
theorem IsS47.apart {w0 W : World} {g : Nat} {f0 : List Int} {f1 : Int} {f2 : Int} {α : Type} {d : Kd α} {e : Nat} {base : Nat} {ok : Nat → Prop} {v : Value} {xs : List α} (h : IsS47 w0 W g f0 f1 f2) (ho : d.R e W base ok v xs) (ht : ∀ q, q ∈ e :: d.E → q ≠ 47) : d.R e W base (fun k => ok k ∧ k ≠ g) v xs := by
 obtain ⟨A0, c0, hb, hg, hr0⟩ := h
 exact Kd.R_types ho hb ht
theorem IsS47.own_ne {w0 W : World} {g : Nat} {f0 : List Int} {f1 : Int} {f2 : Int} {α : Type} {d : Kd α} {e : Nat} {base : Nat} {ok : Nat → Prop} {v : Value} {xs : List α} (h : IsS47 w0 W g f0 f1 f2) (ho : d.R e W base ok v xs) (ht : e ≠ 47) : some g ≠ v.ownBlock := by
 obtain ⟨A0, c0, hb, hg, hr0⟩ := h
 exact Kd.R_ne ho hb ht
theorem IsS47.apartQ {w0 W : World} {g : Nat} {f0 : List Int} {f1 : Int} {f2 : Int} {α : Type} {d : Kd α} {e : Nat} {base : Nat} {ok : Nat → Prop} {v : Value} {xs : List α} (h : IsS47 w0 W g f0 f1 f2) (ho : d.Q e W base ok v xs) (ht : ∀ q, q ∈ e :: d.E → q ≠ 47) : d.Q e W base (fun k => ok k ∧ k ≠ g) v xs := by
 obtain ⟨A0, c0, hb, hg, hr0⟩ := h
 exact Kd.Q_types ho hb ht
theorem IsS47.own_neQ {w0 W : World} {g : Nat} {f0 : List Int} {f1 : Int} {f2 : Int} {α : Type} {d : Kd α} {e : Nat} {base : Nat} {ok : Nat → Prop} {v : Value} {xs : List α} (h : IsS47 w0 W g f0 f1 f2) (ho : d.Q e W base ok v xs) (ht : e ≠ 47) : some g ≠ v.ownBlock := by
 obtain ⟨A0, c0, hb, hg, hr0⟩ := h
 exact Kd.Q_ne ho hb ht
theorem IsS47.apartS {w0 W : World} {g : Nat} {f0 : List Int} {f1 : Int} {f2 : Int} {α : Type} {d : Kd α} {e : Nat} {base : Nat} {ok : Nat → Prop} {v : Value} {xs : List α} (h : IsS47 w0 W g f0 f1 f2) (ho : d.S e W base ok v xs) (ht : ∀ q, q ∈ e :: d.E → q ≠ 47) : d.S e W base (fun k => ok k ∧ k ≠ g) v xs := by
 obtain ⟨A0, c0, hb, hg, hr0⟩ := h
 exact Kd.S_types ho hb ht
theorem IsS47.own_neS {w0 W : World} {g : Nat} {f0 : List Int} {f1 : Int} {f2 : Int} {α : Type} {d : Kd α} {e : Nat} {base : Nat} {ok : Nat → Prop} {v : Value} {xs : List α} (h : IsS47 w0 W g f0 f1 f2) (ho : d.S e W base ok v xs) (ht : e ≠ 47) : some g ≠ v.ownBlock := by
 obtain ⟨A0, c0, hb, hg, hr0⟩ := h
 exact Kd.S_ne ho hb ht
theorem IsS47.lt {w0 W : World} {g : Nat} {f0 : List Int} {f1 : Int} {f2 : Int} (h : IsS47 w0 W g f0 f1 f2) : g < W.heap.size := by
 obtain ⟨A0, c0, hb, hg, hr0⟩ := h
 exact blk_lt hb
theorem IsS47.ge {w0 W : World} {g : Nat} {f0 : List Int} {f1 : Int} {f2 : Int} (h : IsS47 w0 W g f0 f1 f2) : w0.heap.size ≤ g := by
 obtain ⟨A0, c0, hb, hg, hr0⟩ := h
 exact hg
theorem IsS47.ne_blk {w0 W : World} {g : Nat} {f0 : List Int} {f1 : Int} {f2 : Int} {a : Nat} {cs : Array Value} {t : TypeId} {fr : Nat × Nat} (h : IsS47 w0 W g f0 f1 f2) (hb2 : W.heap[a]? = some (.cells cs t fr)) (ht : t ≠ 47) : g ≠ a := by
 obtain ⟨A0, c0, hb, hg, hr0⟩ := h
 rintro rfl
 rw [hb] at hb2
 injection hb2 with hb2
 injection hb2 with _ ht2
 exact ht ht2.symm
theorem IsS47.far {w0 W : World} {g : Nat} {f0 : List Int} {f1 : Int} {f2 : Int} {p : Addr} (h : IsS47 w0 W g f0 f1 f2) (hne : g ≠ p.block) (u : Value) : IsS47 w0 (W.setCell p u) g f0 f1 f2 := by
 obtain ⟨A0, c0, hb, hg, hr0⟩ := h
 exact ⟨A0, c0, blk_far hb hne u, hg, hr0⟩
theorem cellS47_0 {W : World} {g : Nat} {A0 : Option Addr} {c0 : Nat} {f0 : List Int} {f1 : Int} {f2 : Int} (h : W.heap[g]? = some (.cells #[Y A0 f0.length c0, I L f1, I L f2] 47 (0, 0))) : W.cell? ⟨g, 0, none⟩ = some (Y A0 f0.length c0) := (blk_cell h 0).trans rfl
theorem cellS47_1 {W : World} {g : Nat} {A0 : Option Addr} {c0 : Nat} {f0 : List Int} {f1 : Int} {f2 : Int} (h : W.heap[g]? = some (.cells #[Y A0 f0.length c0, I L f1, I L f2] 47 (0, 0))) : W.cell? ⟨g, 1, none⟩ = some (I L f1) := (blk_cell h 1).trans rfl
theorem IsS47.set_1 {w0 W : World} {g : Nat} {f0 : List Int} {f1 : Int} {f2 : Int} (h : IsS47 w0 W g f0 f1 f2) (x : Int) : IsS47 w0 (W.setCell ⟨g, 1, none⟩ (I L x)) g f0 x f2 := by
 obtain ⟨A0, c0, hb, hg, hr0⟩ := h
 exact ⟨A0, c0, by simpa using blk_set hb 1 (I L x), hg, hr0⟩
theorem cellS47_2 {W : World} {g : Nat} {A0 : Option Addr} {c0 : Nat} {f0 : List Int} {f1 : Int} {f2 : Int} (h : W.heap[g]? = some (.cells #[Y A0 f0.length c0, I L f1, I L f2] 47 (0, 0))) : W.cell? ⟨g, 2, none⟩ = some (I L f2) := (blk_cell h 2).trans rfl
theorem IsS47.set_2 {w0 W : World} {g : Nat} {f0 : List Int} {f1 : Int} {f2 : Int} (h : IsS47 w0 W g f0 f1 f2) (x : Int) : IsS47 w0 (W.setCell ⟨g, 2, none⟩ (I L x)) g f0 f1 x := by
 obtain ⟨A0, c0, hb, hg, hr0⟩ := h
 exact ⟨A0, c0, by simpa using blk_set hb 2 (I L x), hg, hr0⟩
theorem IsS47.new (w0 W : World) (A0 : Option Addr) (c0 : Nat) (f0 : List Int) (f1 f2 : Int) (hB : Below w0.heap.size w0 W) (hr0 : Kd.C (Kd.int .u8) w0 A0 f0.length f0) : IsS47 w0 (W.alloc (.cells #[Y A0 f0.length c0, I L f1, I L f2] 47)) W.heap.size f0 f1 f2 := ⟨A0, c0, by simpa using heap_alloc_new W _, hB.size, hr0⟩
theorem IsS47.farN {w0 W : World} {g b o : Nat} {f0 : List Int} {f1 : Int} {f2 : Int} {vs : List Value} (h : IsS47 w0 W g f0 f1 f2) (hne : g ≠ b) : IsS47 w0 (putN W b o vs) g f0 f1 f2 := putN_ind (C := fun w => IsS47 w0 w g f0 f1 f2) (fun _ _ _ h => IsS47.far h hne _) vs W o h
theorem pS47_ {w0 W W' : World} {g : Nat} {f0 : List Int} {f1 : Int} {f2 : Int} {e0 : List Int} {e1 : Int} {e2 : Int} (h : IsS47 w0 W g f0 f1 f2) (k : IsS47 w0 W g f0 f1 f2 → IsS47 w0 W' g e0 e1 e2 := by intro h; repeat (first | (with_reducible first | exact h | apply IsS47.alloc | apply IsS47.drewN | apply IsS47.drew | apply IsS47.set_1 | apply IsS47.set_2 | refine IsS47.far ?_ (Aside0.out (by assumption)) _ | refine IsS47.farN ?_ (Aside0.out (by assumption))) | exact h)) : IsS47 w0 W' g e0 e1 e2 := k h
theorem pU47_ {w0 W W' : World} {g : Nat} {f0 : List Int} {f1 : Int} {f2 : Int} (h : IsS47 w0 W g f0 f1 f2) (k : IsS47 w0 W g f0 f1 f2 → IsS47 w0 W' g f0 f1 f2 := by intro h; repeat (first | (with_reducible first | exact h | apply IsS47.alloc | apply IsS47.drewN | apply IsS47.drew | apply IsS47.set_1 | apply IsS47.set_2 | refine IsS47.far ?_ (Aside0.out (by assumption)) _ | refine IsS47.farN ?_ (Aside0.out (by assumption))) | exact h)) : IsS47 w0 W' g f0 f1 f2 := k h
theorem pT47_ {B : Nat} {w0 w w' : World} (h : Below B w0 w) (k : Below B w0 w → Below B w0 w' := by intro h; repeat (first | (with_reducible first | exact h | apply below_alloc | apply pw_below_drewN | apply below_drew1 | refine below_set ?_ (IsS47.ge (Aside0.out (by assumption))) | refine below_set ?_ (Aside0.out (by assumption)) | refine belowN_ ?_ (IsS47.ge (Aside0.out (by assumption))) | refine belowN_ ?_ (Aside0.out (by assumption))) | exact h)) : Below B w0 w' := k h

/-! ### spec_l01Open: function 11 -/
def spec_l01Open.f (l0 : List Int) : Option (List Int × Int × Int) := some (l0, 0, 71 + ((l0.length : Int) % 1000))
set_option maxHeartbeats 8000000 in
set_option maxRecDepth 100000 in
theorem spec_l01Open.calls (A0 : Option Addr) (c0 : Nat) (l0 r1 : List Int) (r2 r3 : Int) (w0 w : World) (hB : Below w0.heap.size w0 w) (hr0 : Kd.C (Kd.int .u8) w0 A0 l0.length l0) (hc0 : l0.length ≤ c0) (h : spec_l01Open.f l0 = some (r1, r2, r3)) :
  Calls Try.prog 11 #[Y A0 l0.length c0] w fun e w'=>∃ g_:Nat,e=.returned (.pointer (some ⟨g_,0,none⟩))∧IsS47 w0 w' g_ r1 r2 r3∧Below w0.heap.size w0 w'∧Below w.heap.size w w':=by
 have hu47 := Try.underlying47
 have HR0 := D hr0
 have HC0 := D hc0
 clear hr0 hc0
 have HBW := D (Below.refl w.heap.size w)
 have HW0 := D hB.size
 have HB := D hB
 clear hB
 have H : (some (l0, 0, 71 + ((l0.length : Int) % 1000))) = some (r1, r2, r3) := h
 clear h
 simp only [Option.some.injEq, Prod.mk.injEq] at H
 obtain ⟨rfl, rfl, rfl⟩ := H
 go_enter Try.func11, Try.ntmps11
 go_wp2_with (first|((with_reducible refine gate_dst (N:=9) rfl ?_);refine bx_ (N:=9) (cs:=#[Y A0 l0.length c0,I L 0,I L (71 + ((l0.length:Int) % 1000))]) (t:=47) ?_;intro gb101 hg w2 hbox hb;have n_:=an_ (below_step HBW.out hb)<|an_ (below_step (pB_ HB.out) hb)<|an_ (hbox)<|an_ ((by rw [hg];exact (below_size Z10):w.heap.size≤gb101))<|D (Nat.le_trans HW0.out (by rw [hg];exact (below_size Z10):w.heap.size≤gb101):w0.heap.size≤gb101);clear HBW HB;obtain ⟨HBW,HB,BK101,GW101,GE101⟩:=n_;clear hb hbox hg))
 go_ret
 exact ⟨_,rfl,(show IsS47 w0 _ gb101 l0 0 (71 + ((l0.length:Int) % 1000)) from ⟨_,_,by refine pk_ ?_;exact BK101.out,GE101.out,HR0.out⟩),pB_ HB.out,by repeat (first|(with_reducible first|exact HBW.out|apply below_alloc|apply pw_below_drewN|apply below_drew1|refine below_set ?_ GW101.out)|exact HBW.out)⟩

/-! ### spec_l01Cur_pick: function 24 -/
def spec_l01Cur_pick.f (s0_0 : List Int) (s0_1 s0_2 a1 : Int) : Option (Int × Int × Int) := if a1 < 2 then (some (0, s0_1, s0_2)) else (if s0_1 < (s0_0.length : Int) then (if 0 ≤ s0_1 then (if a1 = 0 then (none) else (some (Int.tmod (wrap64 (rd s0_0 s0_1)) a1, wrap64 (s0_1 + 1), s0_2))) else (none)) else (if (s0_0.length : Int) > 0 then (if (s0_0.length : Int) = 0 then (none) else (if 0 ≤ (Int.tmod s0_1 (s0_0.length : Int)) then (if (Int.tmod s0_1 (s0_0.length : Int)) < (s0_0.length : Int) then (if a1 = 0 then (none) else (some (Int.tmod (wrap64 ((wrap64 (Int.tdiv (Int.tmod (wrap64 ((wrap64 (s0_2 * 1103)) + 12345)) 65521) 7)) + (wrap64 (rd s0_0 (Int.tmod s0_1 (s0_0.length : Int)))))) a1, wrap64 (s0_1 + 1), Int.tmod (wrap64 ((wrap64 (s0_2 * 1103)) + 12345)) 65521))) else (none)) else (none))) else (if a1 = 0 then (none) else (some (Int.tmod (0 : Int) a1, wrap64 (s0_1 + 1), Int.tmod (wrap64 ((wrap64 (s0_2 * 1103)) + 12345)) 65521)))))
set_option maxHeartbeats 8000000 in
set_option maxRecDepth 100000 in
theorem spec_l01Cur_pick.calls (g : Nat) (s0_0 : List Int) (s0_1 s0_2 a1 r1 r2 r3 : Int) (w0 w : World) (hI : IsS47 w0 w g s0_0 s0_1 s0_2) (hB : Below w0.heap.size w0 w) (h : spec_l01Cur_pick.f s0_0 s0_1 s0_2 a1 = some (r1, r2, r3)) :
  Calls Try.prog 24 #[.pointer (some ⟨g, 0, none⟩), I L a1] w fun e w' => e = .returned (I L r1) ∧ IsS47 w0 w' g s0_0 r2 r3 ∧ Below w0.heap.size w0 w' ∧ KeepBut w w' g none := by
 have HI0 := D hI
 have HK := D (KeepBut.refl w g none)
 have HL := D hB.size
 clear hI
 have HW0 := D hB.size
 have HB := D hB
 clear hB
 have H:(if a1 < 2 then (some (0,s0_1,s0_2)) else (if s0_1 < (s0_0.length:Int) then (if 0≤s0_1 then (if a1=0 then (none) else (some (Int.tmod (wrap64 (rd s0_0 s0_1)) a1,wrap64 (s0_1 + 1),s0_2))) else (none)) else (if (s0_0.length:Int) > 0 then (if (s0_0.length:Int)=0 then (none) else (if 0≤(Int.tmod s0_1 (s0_0.length:Int)) then (if (Int.tmod s0_1 (s0_0.length:Int)) < (s0_0.length:Int) then (if a1=0 then (none) else (some (Int.tmod (wrap64 ((wrap64 (Int.tdiv (Int.tmod (wrap64 ((wrap64 (s0_2 * 1103)) + 12345)) 65521) 7)) + (wrap64 (rd s0_0 (Int.tmod s0_1 (s0_0.length:Int)))))) a1,wrap64 (s0_1 + 1),Int.tmod (wrap64 ((wrap64 (s0_2 * 1103)) + 12345)) 65521))) else (none)) else (none))) else (if a1=0 then (none) else (some (Int.tmod (0:Int) a1,wrap64 (s0_1 + 1),Int.tmod (wrap64 ((wrap64 (s0_2 * 1103)) + 12345)) 65521))))))=some (r1,r2,r3):=h
 clear h
 by_cases c3 : a1 < 2
 ·rw [if_pos c3] at H
  have c3b0 : decide (a1 < 2) = true := decide_eq_true c3; clear c3; simp only [Option.some.injEq, Prod.mk.injEq] at H; obtain ⟨rfl, rfl, rfl⟩ := H; go_enter Try.func24, Try.ntmps24
  go_wp2
  repeat (go_quiet (fail); try go_wp2)
  go_ret; exact ⟨er_, pS47_ HI0.out, pT47_ HB.out, pK_ HK.out⟩
 ·rw [if_neg c3] at H
  have c3b0 : decide (a1 < 2) = false := decide_eq_false c3; clear c3
  by_cases c4 : s0_1 < (s0_0.length : Int)
  ·rw [if_pos c4] at H
   have c4b0 : decide (s0_1 < (s0_0.length : Int)) = true := decide_eq_true c4; clear c4
   by_cases c5 : 0 ≤ s0_1
   ·rw [if_pos c5] at H
    have c5b0 : decide (0 ≤ s0_1) = true := decide_eq_true c5; clear c5
    by_cases c6 : a1 = 0
    ·rw [if_pos c6] at H
     exact absurd H (by simp)
    ·rw [if_neg c6] at H
     have c6b0:(a1 == 0)=false:=beq_eq_false_iff_ne.mpr c6;have c6b1:(a1 != 0)=true:=bne_iff_ne.mpr c6;simp only [Option.some.injEq,Prod.mk.injEq] at H;obtain ⟨rfl,rfl,rfl⟩:=H;obtain ⟨ASz7_0,cSz7_0,HGz7,hgz7,HSz7_0⟩:=HI0.out;have hcz7_0:=cellS47_0 HGz7;have hcz7_1:=cellS47_1 HGz7;have hcz7_2:=cellS47_2 HGz7;have hfz7_1:=blk_frozen HGz7 1;have hfz7_2:=blk_frozen HGz7 2;clear HGz7 hgz7;have p102:0≤(s0_1:Int):=od_ Z22;have q102:s0_1 < (s0_0.length:Int):=od_ Z22;obtain ⟨ad102,e102,hx102_0⟩:=Kd.at_int HSz7_0 s0_1 p102 q102;cases e102;replace hx102_0:=pw_cell_below HB.out hx102_0;replace p102:=eq_true p102;replace q102:=eq_true q102;go_enter Try.func24,Try.ntmps24
     go_wp2
     repeat (go_quiet (fail); try go_wp2)
     go_ret; exact ⟨er_, pS47_ HI0.out, pT47_ HB.out, pK_ HK.out⟩
   ·rw [if_neg c5] at H
    exact absurd H (by simp)
  ·rw [if_neg c4] at H
   have c4b0:decide (s0_1 < (s0_0.length:Int))=false:=decide_eq_false c4;clear c4;have HU8:=D H;clear H;obtain ⟨ASz9_0,cSz9_0,HGz9,hgz9,HSz9_0⟩:=HI0.out;have hcz9_0:=cellS47_0 HGz9;have hcz9_1:=cellS47_1 HGz9;have hcz9_2:=cellS47_2 HGz9;have hfz9_1:=blk_frozen HGz9 1;have hfz9_2:=blk_frozen HGz9 2;clear HGz9 hgz9;go_enter Try.func24,Try.ntmps24
   go_upto_if 44 with (fail)
   repeat (go_quiet (fail); go_upto_if 44 with (fail))
   refine relet_ (F:=fun w10=>Aside0 (IsS47 w0 w10 g s0_0 s0_1 (Int.tmod (wrap64 ((wrap64 (s0_2 * 1103)) + 12345)) 65521))∧Aside0 (KeepBut w w10 g none)∧Aside0 (Below w0.heap.size w0 w10)) ⟨⟨pS47_ HI0.out⟩,⟨pK_ HK.out⟩,⟨pT47_ HB.out⟩⟩ ?_;(try clear HI0);(try clear HK);(try clear HB);rintro w10 ⟨HI0,HK,HB⟩;have H:=HU8.out;clear HU8
   by_cases c11 : (s0_0.length : Int) > 0
   ·rw [if_pos c11] at H
    have c11b0:decide (0 < (s0_0.length:Int))=true:=decide_eq_true c11;have c11b1:decide (0 < s0_0.length)=true:=decide_eq_true (by omega);clear c11;refine rw_ c11b0 ?_
    by_cases c12 : (s0_0.length : Int) = 0
    ·rw [if_pos c12] at H
     exact absurd H (by simp)
    ·rw [if_neg c12] at H
     have c12b0 : ((s0_0.length : Int) == 0) = false := beq_eq_false_iff_ne.mpr c12; have c12b1 : ((s0_0.length : Int) != 0) = true := bne_iff_ne.mpr c12
     have c12b2 : ¬ (s0_0 = []) := fun h_ => c12 (by rw [h_]; rfl)
     obtain ⟨ji13, hji13⟩ : ∃ j_ : Int, (Int.tmod s0_1 (s0_0.length : Int)) = j_ := ⟨_, rfl⟩
     replace H:(if 0≤(ji13) then (if (ji13) < (s0_0.length:Int) then (if a1=0 then (none) else (some (Int.tmod (wrap64 ((wrap64 (Int.tdiv (Int.tmod (wrap64 ((wrap64 (s0_2 * 1103)) + 12345)) 65521) 7)) + (wrap64 (rd s0_0 (ji13))))) a1,wrap64 (s0_1 + 1),Int.tmod (wrap64 ((wrap64 (s0_2 * 1103)) + 12345)) 65521))) else (none)) else (none))=some (r1,r2,r3):=by first|(rw [hji13] at H;exact H)|(simp only [hji13] at H ⊢;exact H)
     by_cases c14 : 0 ≤ (ji13)
     ·rw [if_pos c14] at H
      have c14b0 : decide (0 ≤ (ji13)) = true := decide_eq_true c14; clear c14
      by_cases c15 : (ji13) < (s0_0.length : Int)
      ·rw [if_pos c15] at H
       have c15b0 : decide ((ji13) < (s0_0.length : Int)) = true := decide_eq_true c15; clear c15
       by_cases c16 : a1 = 0
       ·rw [if_pos c16] at H
        exact absurd H (by simp)
       ·rw [if_neg c16] at H
        have c16b0:(a1 == 0)=false:=beq_eq_false_iff_ne.mpr c16;have c16b1:(a1 != 0)=true:=bne_iff_ne.mpr c16;simp only [Option.some.injEq,Prod.mk.injEq] at H;obtain ⟨rfl,rfl,rfl⟩:=H;obtain ⟨ASz17_0,cSz17_0,HGz17,hgz17,HSz17_0⟩:=HI0.out;have hcz17_0:=cellS47_0 HGz17;have hcz17_1:=cellS47_1 HGz17;have hcz17_2:=cellS47_2 HGz17;have hfz17_1:=blk_frozen HGz17 1;have hfz17_2:=blk_frozen HGz17 2;clear HGz17 hgz17;have p103:0≤((ji13):Int):=od_ Z22;have q103:(ji13) < (s0_0.length:Int):=od_ Z22;obtain ⟨ad103,e103,hx103_0⟩:=Kd.at_int HSz17_0 (ji13) p103 q103;cases e103;replace hx103_0:=pw_cell_below HB.out hx103_0;replace p103:=eq_true p103;replace q103:=eq_true q103
        go_wp2
        repeat (go_quiet (fail); try go_wp2)
        go_ret;exact ⟨by first|rfl|(simp [errW_none,errW_some] <;> rfl)|(simp only [← hji13];first|rfl|(simp [errW_none,errW_some] <;> rfl))|(simp [*,errW_none,errW_some] <;> rfl),pS47_ HI0.out,pT47_ HB.out,pK_ HK.out⟩
      ·rw [if_neg c15] at H
       exact absurd H (by simp)
     ·rw [if_neg c14] at H
      exact absurd H (by simp)
   ·rw [if_neg c11] at H
    have c11b0:decide (0 < (s0_0.length:Int))=false:=decide_eq_false c11;have c11b1:decide (0 < s0_0.length)=false:=decide_eq_false (by omega);clear c11;refine rw_ c11b0 ?_
    by_cases c18 : a1 = 0
    ·rw [if_pos c18] at H
     exact absurd H (by simp)
    ·rw [if_neg c18] at H
     have c18b0:(a1 == 0)=false:=beq_eq_false_iff_ne.mpr c18;have c18b1:(a1 != 0)=true:=bne_iff_ne.mpr c18;simp only [Option.some.injEq,Prod.mk.injEq] at H;obtain ⟨rfl,rfl,rfl⟩:=H;obtain ⟨ASz19_0,cSz19_0,HGz19,hgz19,HSz19_0⟩:=HI0.out;have hcz19_0:=cellS47_0 HGz19;have hcz19_1:=cellS47_1 HGz19;have hcz19_2:=cellS47_2 HGz19;have hfz19_1:=blk_frozen HGz19 1;have hfz19_2:=blk_frozen HGz19 2;clear HGz19 hgz19
     go_wp2
     repeat (go_quiet (fail); try go_wp2)
     go_ret; exact ⟨er_, pS47_ HI0.out, pT47_ HB.out, pK_ HK.out⟩

/-! ### spec_l01Cur_wide: function 35 -/
def spec_l01Cur_wide.f (s0_0 : List Int) (s0_1 s0_2 a1 : Int) : Option (Int × Int × Int) := (spec_l01Cur_pick.f s0_0 s0_1 s0_2 256).bind fun bt104 => ((spec_l01Cur_pick.f s0_0 bt104.2.1 bt104.2.2 256).bind fun bt107 => ((spec_l01Cur_pick.f s0_0 bt107.2.1 bt107.2.2 256).bind fun bt110 => (if a1 = 0 then (none) else (some (Int.tmod (wrap64 ((wrap64 ((wrap64 (65536 * bt104.1)) + (wrap64 (256 * bt107.1)))) + bt110.1)) a1, bt110.2.1, bt110.2.2)))))
set_option maxHeartbeats 8000000 in
set_option maxRecDepth 100000 in
theorem spec_l01Cur_wide.calls (g : Nat) (s0_0 : List Int) (s0_1 s0_2 a1 r1 r2 r3 : Int) (w0 w : World) (hI : IsS47 w0 w g s0_0 s0_1 s0_2) (hB : Below w0.heap.size w0 w) (h : spec_l01Cur_wide.f s0_0 s0_1 s0_2 a1 = some (r1, r2, r3)) :
  Calls Try.prog 35 #[.pointer (some ⟨g, 0, none⟩), I L a1] w fun e w' => e = .returned (I L r1) ∧ IsS47 w0 w' g s0_0 r2 r3 ∧ Below w0.heap.size w0 w' ∧ KeepBut w w' g none := by
 have HI0 := D hI
 have HK := D (KeepBut.refl w g none)
 have HL := D hB.size
 clear hI
 have HW0 := D hB.size
 have HB := D hB
 clear hB
 have H:((spec_l01Cur_pick.f s0_0 s0_1 s0_2 256).bind fun bt104=>((spec_l01Cur_pick.f s0_0 bt104.2.1 bt104.2.2 256).bind fun bt107=>((spec_l01Cur_pick.f s0_0 bt107.2.1 bt107.2.2 256).bind fun bt110=>(if a1=0 then (none) else (some (Int.tmod (wrap64 ((wrap64 ((wrap64 (65536 * bt104.1)) + (wrap64 (256 * bt107.1)))) + bt110.1)) a1,bt110.2.1,bt110.2.2))))))=some (r1,r2,r3):=h
 clear h
 obtain ⟨⟨t104, t105, t106⟩, A30, H⟩ := bs_.mp H
 (try dsimp only at H)
 have A3 := D A30
 clear A30
 obtain ⟨⟨t107, t108, t109⟩, A40, H⟩ := bs_.mp H
 (try dsimp only at H)
 have A4 := D A40
 clear A40
 obtain ⟨⟨t110, t111, t112⟩, A50, H⟩ := bs_.mp H
 (try dsimp only at H)
 have A5 := D A50
 clear A50
 by_cases c6 : a1 = 0
 ·rw [if_pos c6] at H
  exact absurd H (by simp)
 ·rw [if_neg c6] at H
  have c6b0:(a1 == 0)=false:=beq_eq_false_iff_ne.mpr c6;have c6b1:(a1 != 0)=true:=bne_iff_ne.mpr c6;simp only [Option.some.injEq,Prod.mk.injEq] at H;obtain ⟨rfl,rfl,rfl⟩:=H;go_enter Try.func35,Try.ntmps35
  go_wp2_with (first|((with_reducible refine gate_callee (f:=24) rfl ?_);refine goesL_ (some 6) rfl rfl Try.func24 (by kernel_rfl) rfl #[.pointer (some ⟨g,0,none⟩),I L 256] rfl Z9 ?_;(with_reducible refine (spec_l01Cur_pick.calls g s0_0 s0_1 s0_2 256 t104 t105 t106 w0 _ ?side1 ?side2 A3.out).mono ?_);(case side1=>exact pS47_ HI0.out);(case side2=>exact pT47_ HB.out);rintro e w7 ⟨rfl,hi,hb,hk⟩;refine ⟨_,rfl,?_⟩;have n_:=an_ (KeepBut.trans (pK_ HK.out) hk (.inl rfl))<|an_ (hb)<|D (hi);clear HK HB HI0;obtain ⟨HK,HB,HI0⟩:=n_;(try clear hb);(try clear hk);(try clear hi))|((with_reducible refine gate_callee (f:=24) rfl ?_);refine goesL_ (some 9) rfl rfl Try.func24 (by kernel_rfl) rfl #[.pointer (some ⟨g,0,none⟩),I L 256] rfl Z9 ?_;(with_reducible refine (spec_l01Cur_pick.calls g s0_0 t105 t106 256 t107 t108 t109 w0 _ ?side1 ?side2 A4.out).mono ?_);(case side1=>exact pS47_ HI0.out);(case side2=>exact pT47_ HB.out);rintro e w8 ⟨rfl,hi,hb,hk⟩;refine ⟨_,rfl,?_⟩;have n_:=an_ (KeepBut.trans (pK_ HK.out) hk (.inl rfl))<|an_ (hb)<|D (hi);clear HK HB HI0;obtain ⟨HK,HB,HI0⟩:=n_;(try clear hb);(try clear hk);(try clear hi))|((with_reducible refine gate_callee (f:=24) rfl ?_);refine goesL_ (some 13) rfl rfl Try.func24 (by kernel_rfl) rfl #[.pointer (some ⟨g,0,none⟩),I L 256] rfl Z9 ?_;(with_reducible refine (spec_l01Cur_pick.calls g s0_0 t108 t109 256 t110 t111 t112 w0 _ ?side1 ?side2 A5.out).mono ?_);(case side1=>exact pS47_ HI0.out);(case side2=>exact pT47_ HB.out);rintro e w9 ⟨rfl,hi,hb,hk⟩;refine ⟨_,rfl,?_⟩;have n_:=an_ (KeepBut.trans (pK_ HK.out) hk (.inl rfl))<|an_ (hb)<|D (hi);clear HK HB HI0;obtain ⟨HK,HB,HI0⟩:=n_;(try clear hb);(try clear hk);(try clear hi)))
  go_ret; exact ⟨er_, pS47_ HI0.out, pT47_ HB.out, pK_ HK.out⟩

/-! ### spec_l01Cur_item: function 25 -/
def spec_l01Cur_item.f (s0_0 : List Int) (s0_1 s0_2 : Int) : Option (Int × Int × Int × Int) := (spec_l01Cur_pick.f s0_0 s0_1 s0_2 12).bind fun bt114 => ((spec_l01Cur_pick.f s0_0 bt114.2.1 bt114.2.2 256).bind fun bt117 => ((spec_l01Cur_wide.f s0_0 bt117.2.1 bt117.2.2 16777216).bind fun bt120 => ((some (([bt114.1, bt117.1, bt120.1] : List Int) : List Int)).bind fun y123 => ((spec_l01Cur_pick.f s0_0 bt120.2.1 bt120.2.2 3).bind fun bt126 => (if 0 ≤ bt126.1 then (if bt126.1 < (y123.length : Int) then ((spec_l01Cur_pick.f s0_0 bt126.2.1 bt126.2.2 40).bind fun bt130 => (some (rd y123 bt126.1, bt130.1, bt130.2.1, bt130.2.2))) else (none)) else (none))))))
def spec_l01Cur_item.T1 : Bool × List (List Nat × List Nat) := (true, [([], []), ([0], [0]), ([], []), ([2, 1], [2]), ([], []), ([4, 3], [4]), ([1, 3, 5], [1, 3, 5]), ([], []), ([7, 5], [7]), ([6, 8], [6, 8]), ([9], [9]), ([], []), ([11, 8], [11]), ([10, 12], [10, 12]), ([13, 12, 0, 1, 2, 3, 4, 5, 6, 7, 8, 9, 10, 11, 12, 13], [13])])
def spec_l01Cur_item.B1 : List Nat := [0, 1, 0, 7, 0, 31, 63, 0, 191, 511, 1023, 0, 2495, 8191, 16383]
theorem spec_l01Cur_item.tab1 : rtab .any (opsOf Try.f25 1) = spec_l01Cur_item.T1 := by kernel_rfl
theorem spec_l01Cur_item.bits1 : waitsOk spec_l01Cur_item.T1.2 spec_l01Cur_item.B1 = true := by kernel_rfl
set_option maxHeartbeats 8000000 in
set_option maxRecDepth 100000 in
theorem spec_l01Cur_item.calls (g : Nat) (s0_0 : List Int) (s0_1 s0_2 r1 r2 r3 r4 : Int) (w0 w : World) (hI : IsS47 w0 w g s0_0 s0_1 s0_2) (hB : Below w0.heap.size w0 w) (h : spec_l01Cur_item.f s0_0 s0_1 s0_2 = some (r1, r2, r3, r4)) :
  Calls Try.prog 25 #[.pointer (some ⟨g, 0, none⟩)] w fun e w' => e = .returned (.agg #[I L r1, I L r2]) ∧ IsS47 w0 w' g s0_0 r3 r4 ∧ Below w0.heap.size w0 w' ∧ KeepBut w w' g none := by
 have hu32 := Try.underlying32
 have HI0 := D hI
 have HK := D (KeepBut.refl w g none)
 have HL := D hB.size
 clear hI
 have HW0 := D hB.size
 have HB := D hB
 clear hB
 have H:((spec_l01Cur_pick.f s0_0 s0_1 s0_2 12).bind fun bt114=>((spec_l01Cur_pick.f s0_0 bt114.2.1 bt114.2.2 256).bind fun bt117=>((spec_l01Cur_wide.f s0_0 bt117.2.1 bt117.2.2 16777216).bind fun bt120=>((some (([bt114.1,bt117.1,bt120.1]:List Int):List Int)).bind fun y123=>((spec_l01Cur_pick.f s0_0 bt120.2.1 bt120.2.2 3).bind fun bt126=>(if 0≤bt126.1 then (if bt126.1 < (y123.length:Int) then ((spec_l01Cur_pick.f s0_0 bt126.2.1 bt126.2.2 40).bind fun bt130=>(some (rd y123 bt126.1,bt130.1,bt130.2.1,bt130.2.2))) else (none)) else (none)))))))=some (r1,r2,r3,r4):=h
 clear h
 obtain ⟨⟨Jb, Mc, Oc⟩, A20, H⟩ := bs_.mp H
 (try dsimp only at H)
 have A2 := D A20
 clear A20
 obtain ⟨⟨Kb, Uc, Xc⟩, A30, H⟩ := bs_.mp H
 (try dsimp only at H)
 have A3 := D A30
 clear A30
 obtain ⟨⟨Mb, Ob, Ub⟩, A40, H⟩ := bs_.mp H
 (try dsimp only at H)
 have A4 := D A40
 clear A40
 obtain ⟨y123, hy123⟩ : ∃ y_ : List Int, y_ = (([Jb, Kb, Mb] : List Int)) := ⟨_, rfl⟩
 replace H:((spec_l01Cur_pick.f s0_0 Ob Ub 3).bind fun bt126=>(if 0≤bt126.1 then (if bt126.1 < (y123.length:Int) then ((spec_l01Cur_pick.f s0_0 bt126.2.1 bt126.2.2 40).bind fun bt130=>(some (rd y123 bt126.1,bt130.1,bt130.2.1,bt130.2.2))) else (none)) else (none)))=some (r1,r2,r3,r4):=by first|(rw [hy123];with_reducible exact H)|(have H2_:=(Option.bind_some _ _).symm.trans H;rw [hy123];with_reducible exact H2_)|(have H2_:=(Option.bind_some _ _).symm.trans H;with_reducible exact H2_)|with_reducible exact H|(rw [hy123];exact H)|exact H
 have Ny123 := D hy123
 clear hy123
 obtain ⟨⟨Ma, Xb, Jc⟩, A50, H⟩ := bs_.mp H
 (try dsimp only at H)
 have A5 := D A50
 clear A50
 by_cases c6 : 0 ≤ Ma
 ·rw [if_pos c6] at H
  have c6b0 : decide (0 ≤ Ma) = true := decide_eq_true c6; clear c6
  by_cases c7 : Ma < (y123.length : Int)
  ·rw [if_pos c7] at H
   have c7b0:decide (Ma < (y123.length:Int))=true:=decide_eq_true c7;clear c7;obtain ⟨⟨Oa,Jd,Md⟩,A80,H⟩:=bs_.mp H;(try dsimp only at H);have A8:=D A80;clear A80;simp only [Option.some.injEq,Prod.mk.injEq] at H;obtain ⟨rfl,rfl,rfl,rfl⟩:=H;go_enter Try.func25,Try.ntmps25
   try go_wp2_with (first|((with_reducible refine gate_dst (N:=2) rfl ?_);refine bx_ (N:=2) (cs:=#[I L 0,I L 0]) (t:=32) ?_;intro Ua hg w9 hbox hb;have n_:=an_ (IsS47.below (pU47_ HI0.out) hb)<|an_ (KeepBut.trans (pK_ HK.out) (KeepBut.of_below hb g none) (.inl rfl))<|an_ (below_step (pT47_ HB.out) hb)<|an_ (hbox)<|an_ ((by rw [hg];exact (keep_size (w:=w) (g:=g) (row:=none) (pK_ HK.out)):w.heap.size≤Ua))<|an_ ((Nat.le_trans HW0.out (by rw [hg];exact (keep_size (w:=w) (g:=g) (row:=none) (pK_ HK.out)):w.heap.size≤Ua):w0.heap.size≤Ua))<|an_ ((by rw [hg];exact Nat.ne_of_lt (IsS47.lt (show IsS47 w0 _ g s0_0 s0_1 s0_2 from pS47_ HI0.out)):g≠Ua))<|D (by rw [hg];exact Nat.ne_of_gt (IsS47.lt (show IsS47 w0 _ g s0_0 s0_1 s0_2 from pS47_ HI0.out)):Ua≠g);clear HI0 HK HB;obtain ⟨HI0,HK,HB,Ja,Je,Ke,Od,Kc⟩:=n_;clear hb hbox hg))
   have pi129 : (0 ≤ (Ma : Int)) = True := eq_true (od_ Z22); have qi129 : (Ma < (y123.length : Int)) = True := eq_true (od_ Z22)
   have n_ := an_ (blk_drew Ja.out) <| an_ (IsS47.drew HI0.out) <| an_ (keep_drew HK.out) <| D (below_drew1 HB.out)
   clear Ja HI0 HK HB;obtain ⟨Ja,HI0,HK,HB⟩:=n_;refine start_ (n:=15) (S:=fun w'=>True) (ds:=[]) #[false,false,false,false,false,false,false,false,false,false,false,false,false,false,false] (by kernel_rfl) rfl rfl trivial (fun hHeld=>?_);refine with_tabW spec_l01Cur_item.tab1 spec_l01Cur_item.bits1 (fun HT_ HW_=>?_);generalize w9.drew=w10 at Ja HI0 HK HB hHeld ⊢;refine pure_ (i:=0) (N:=some 3) (v:=?_) (a':=?_) #[true,false,false,false,false,false,false,false,false,false,false,false,false,false,false] rfl rfl (any_of HT_.out (by kernel_rfl)) (fun _ _ _ h=>h) (Or.inl ⟨by rfl,?_⟩) ?_ ?_;rotate_left
   ·intro w'
    go_simp
    with_reducible rfl
   rotate_left
   ·simp only [Act.put, List.setIfInBounds_toArray, List.set_cons_zero, List.set_cons_succ, i64_w, i32_w]
    rfl
   refine pure_ (i:=2) (N:=some 5) (v:=?_) (a':=?_) #[true,false,true,false,false,false,false,false,false,false,false,false,false,false,false] rfl rfl (any_of HT_.out (by kernel_rfl)) (fun _ _ _ h=>h) (Or.inl ⟨by rfl,?_⟩) ?_ ?_;rotate_left
   ·intro w'
    go_simp
    with_reducible rfl
   rotate_left
   ·simp only [Act.put, List.setIfInBounds_toArray, List.set_cons_zero, List.set_cons_succ, i64_w, i32_w]
    rfl
   refine pure_ (i:=4) (N:=some 7) (v:=?_) (a':=?_) #[true,false,true,false,true,false,false,false,false,false,false,false,false,false,false] rfl rfl (any_of HT_.out (by kernel_rfl)) (fun _ _ _ h=>h) (Or.inl ⟨by rfl,?_⟩) ?_ ?_;rotate_left
   ·intro w'
    go_simp
    with_reducible rfl
   rotate_left
   ·simp only [Act.put, List.setIfInBounds_toArray, List.set_cons_zero, List.set_cons_succ, i64_w, i32_w]
    rfl
   refine pure_ (i:=7) (N:=some 10) (v:=?_) (a':=?_) #[true,false,true,false,true,false,false,true,false,false,false,false,false,false,false] rfl rfl (any_of HT_.out (by kernel_rfl)) (fun _ _ _ h=>h) (Or.inl ⟨by rfl,?_⟩) ?_ ?_;rotate_left
   ·intro w'
    go_simp
    with_reducible rfl
   rotate_left
   ·simp only [Act.put, List.setIfInBounds_toArray, List.set_cons_zero, List.set_cons_succ, i64_w, i32_w]
    rfl
   refine pure_ (i:=11) (N:=some 14) (v:=?_) (a':=?_) #[true,false,true,false,true,false,false,true,false,false,false,true,false,false,false] rfl rfl (any_of HT_.out (by kernel_rfl)) (fun _ _ _ h=>h) (Or.inl ⟨by rfl,?_⟩) ?_ ?_;rotate_left
   ·intro w'
    go_simp
    with_reducible rfl
   rotate_left
   ·simp only [Act.put, List.setIfInBounds_toArray, List.set_cons_zero, List.set_cons_succ, i64_w, i32_w]
    rfl
   refine inv_at [1,3,5,6,8,9,10,12,13,14] (fun a0_ b a w'=>∃ (Ka:Value) (adz_v124:Addr) (m9_:Value),a=putSel a0_ b [(1,4,I L Jb),(3,6,I L Kb),(5,8,I L Mb),(6,9,Ka),(8,11,I L Ma),(9,12,m9_),(10,13,I L (rd y123 Ma)),(12,15,I L Oa),(13,16,.agg #[I L (rd y123 Ma),I L Oa])]∧(b 14=false → w'.heap[Ua]?=some (.cells #[I L 0,I L 0] 32 (0,0)))∧(b 1=false → IsS47 w0 w' g s0_0 s0_1 s0_2)∧(KeepBut w w' g none)∧(Below w0.heap.size w0 w')∧(b 1=true → b 3=false → IsS47 w0 w' g s0_0 Mc Oc)∧(b 3=true → b 5=false → IsS47 w0 w' g s0_0 Uc Xc)∧(b 5=true → b 8=false → IsS47 w0 w' g s0_0 Ob Ub)∧(b 6=true → Kd.R (Kd.int .i64) 3 w' w.heap.size (fun _=>True) Ka y123)∧(b 6=true → ∃ c_,(Ka:Value)=Y (some adz_v124) y123.length c_)∧(b 8=true → b 12=false → IsS47 w0 w' g s0_0 Xb Jc)∧(b 12=true → IsS47 w0 w' g s0_0 Jd Md)∧(b 14=true → w'.heap[Ua]?=some (.cells #[I L (rd y123 Ma),I L Oa] 32 (0,0)))∧(b 9=true → (m9_:Value)=.pointer (some (adz_v124.add (Ma).toNat)))) HT_.out HW_.out (by kernel_rfl) (by kernel_rfl) ?_ ?_ ?_
   ·exact ⟨.bool false,⟨0,0,none⟩,.bool false,by simp only [putSel,Bool.false_eq_true,if_false],fun _=>Ja.out,fun _=>HI0.out,HK.out,HB.out,fun h_=>absurd h_ (by decide),fun h_=>absurd h_ (by decide),fun h_=>absurd h_ (by decide),fun h_=>absurd h_ (by decide),fun h_=>absurd h_ (by decide),fun h_=>absurd h_ (by decide),fun h_=>absurd h_ (by decide),fun h_=>absurd h_ (by decide),fun h_=>absurd h_ (by decide)⟩
   ·skip
    clear Ja HB HI0 HK; refine steps_cons ?_ ?_
    ·rintro b a w' ⟨Ka, adz_v124, m9_, ha, Q_BK113, Q_HI0, Q_HK, Q_HB, Q_HI0_e1, Q_HI0_e3, Q_HI0_e5, Q_HO125, Q_HA_HO125, Q_HI0_e8, Q_HI0_e12, Q_BK113_e14, Q_X9_⟩ hb_ hon hoff
     refine ⟨_, rfl, fun K hK => ?_⟩
     have e3 : a.tmps[3]? = some (.pointer (some ⟨g, 0, none⟩)) := by rw [ha]; exact (putSel_off rfl).trans rfl
     replace ha:=D ha;have Ja:=D (Q_BK113 (hoff 14 (by kernel_rfl)));have HI0:=D (Q_HI0 hb_);have HK:=D Q_HK;have HB:=D Q_HB;refine goes_ Try.func24 (by kernel_rfl) rfl #[.pointer (some ⟨g,0,none⟩),I L 12] (by rfl) rfl rfl (by first|(simp only [List.map_toArray,List.map_cons,List.map_nil,Act.eval,Array.getD_eq_getD_getElem?,Option.getD_some,e3];done)|(simp only [List.map_toArray,List.map_cons,List.map_nil,Act.eval,Array.getD_eq_getD_getElem?,Option.getD_some,e3];rfl)) ?_;with_reducible refine (spec_l01Cur_pick.calls g s0_0 s0_1 s0_2 12 Jb Mc Oc w0 _ ?side1 ?side2 A2.out).mono ?_
     (case side1 => exact pS47_ HI0.out); (case side2 => exact pT47_ HB.out); rintro e w11 ⟨rfl, hi, hb, hk⟩; refine ⟨_, rfl, ?_⟩
     have n_ := an_ (KeepBut.blk hk (pk_ Ja.out) Kc.out (by simp)) <| an_ (KeepBut.trans (pK_ HK.out) hk (.inl rfl)) <| an_ (hb) <| D (hi)
     clear Ja HK HB HI0;obtain ⟨Ja,HK,HB,HI0⟩:=n_;refine hK.out _ _ ⟨Ka,adz_v124,m9_,(by rw [ha.out];exact putSel_upk 0 hb_ rfl rfl rfl),fun _=>(pk_ Ja.out),fun h0_=>absurd ((up_self b 1).symm.trans h0_) (by decide),(pK_ HK.out),(pT47_ HB.out),fun _ _=>(pS47_ HI0.out),fun h0_ _=>absurd ((hoff 3 (by kernel_rfl)).symm.trans h0_) (by decide),fun h0_ _=>absurd ((hoff 5 (by kernel_rfl)).symm.trans h0_) (by decide),fun h0_=>absurd ((hoff 6 (by kernel_rfl)).symm.trans h0_) (by decide),fun h0_=>absurd ((hoff 6 (by kernel_rfl)).symm.trans h0_) (by decide),fun h0_ _=>absurd ((hoff 8 (by kernel_rfl)).symm.trans h0_) (by decide),fun h0_=>absurd ((hoff 12 (by kernel_rfl)).symm.trans h0_) (by decide),fun h0_=>absurd ((hoff 14 (by kernel_rfl)).symm.trans h0_) (by decide),fun h0_=>absurd ((hoff 9 (by kernel_rfl)).symm.trans h0_) (by decide)⟩
    refine steps_cons ?_ ?_
    ·rintro b a w' ⟨Ka, adz_v124, m9_, ha, Q_BK113, Q_HI0, Q_HK, Q_HB, Q_HI0_e1, Q_HI0_e3, Q_HI0_e5, Q_HO125, Q_HA_HO125, Q_HI0_e8, Q_HI0_e12, Q_BK113_e14, Q_X9_⟩ hb_ hon hoff
     refine ⟨_, rfl, fun K hK => ?_⟩
     have e5 : a.tmps[5]? = some (.pointer (some ⟨g, 0, none⟩)) := by rw [ha]; exact (putSel_off rfl).trans rfl
     replace ha:=D ha;have Ja:=D (Q_BK113 (hoff 14 (by kernel_rfl)));have HK:=D Q_HK;have HB:=D Q_HB;have HI0:=D (Q_HI0_e1 (hon 1 (by kernel_rfl)) hb_);refine goes_ Try.func24 (by kernel_rfl) rfl #[.pointer (some ⟨g,0,none⟩),I L 256] (by rfl) rfl rfl (by first|(simp only [List.map_toArray,List.map_cons,List.map_nil,Act.eval,Array.getD_eq_getD_getElem?,Option.getD_some,e5];done)|(simp only [List.map_toArray,List.map_cons,List.map_nil,Act.eval,Array.getD_eq_getD_getElem?,Option.getD_some,e5];rfl)) ?_;with_reducible refine (spec_l01Cur_pick.calls g s0_0 Mc Oc 256 Kb Uc Xc w0 _ ?side1 ?side2 A3.out).mono ?_
     (case side1 => exact pS47_ HI0.out); (case side2 => exact pT47_ HB.out); rintro e w13 ⟨rfl, hi, hb, hk⟩; refine ⟨_, rfl, ?_⟩
     have n_ := an_ (KeepBut.blk hk (pk_ Ja.out) Kc.out (by simp)) <| an_ (KeepBut.trans (pK_ HK.out) hk (.inl rfl)) <| an_ (hb) <| D (hi)
     clear Ja HK HB HI0;obtain ⟨Ja,HK,HB,HI0⟩:=n_;refine hK.out _ _ ⟨Ka,adz_v124,m9_,(by rw [ha.out];exact putSel_upk 1 hb_ rfl rfl rfl),fun _=>(pk_ Ja.out),fun h0_=>absurd ((hon 1 (by kernel_rfl)).symm.trans h0_) (by decide),(pK_ HK.out),(pT47_ HB.out),fun _ h1_=>absurd ((up_self b 3).symm.trans h1_) (by decide),fun _ _=>(pS47_ HI0.out),fun h0_ _=>absurd ((hoff 5 (by kernel_rfl)).symm.trans h0_) (by decide),fun h0_=>absurd ((hoff 6 (by kernel_rfl)).symm.trans h0_) (by decide),fun h0_=>absurd ((hoff 6 (by kernel_rfl)).symm.trans h0_) (by decide),fun h0_ _=>absurd ((hoff 8 (by kernel_rfl)).symm.trans h0_) (by decide),fun h0_=>absurd ((hoff 12 (by kernel_rfl)).symm.trans h0_) (by decide),fun h0_=>absurd ((hoff 14 (by kernel_rfl)).symm.trans h0_) (by decide),fun h0_=>absurd ((hoff 9 (by kernel_rfl)).symm.trans h0_) (by decide)⟩
    refine steps_cons ?_ ?_
    ·rintro b a w' ⟨Ka, adz_v124, m9_, ha, Q_BK113, Q_HI0, Q_HK, Q_HB, Q_HI0_e1, Q_HI0_e3, Q_HI0_e5, Q_HO125, Q_HA_HO125, Q_HI0_e8, Q_HI0_e12, Q_BK113_e14, Q_X9_⟩ hb_ hon hoff
     refine ⟨_, rfl, fun K hK => ?_⟩
     have e7 : a.tmps[7]? = some (.pointer (some ⟨g, 0, none⟩)) := by rw [ha]; exact (putSel_off rfl).trans rfl
     replace ha:=D ha;have Ja:=D (Q_BK113 (hoff 14 (by kernel_rfl)));have HK:=D Q_HK;have HB:=D Q_HB;have HI0:=D (Q_HI0_e3 (hon 3 (by kernel_rfl)) hb_);refine goes_ Try.func35 (by kernel_rfl) rfl #[.pointer (some ⟨g,0,none⟩),I L 16777216] (by rfl) rfl rfl (by first|(simp only [List.map_toArray,List.map_cons,List.map_nil,Act.eval,Array.getD_eq_getD_getElem?,Option.getD_some,e7];done)|(simp only [List.map_toArray,List.map_cons,List.map_nil,Act.eval,Array.getD_eq_getD_getElem?,Option.getD_some,e7];rfl)) ?_;with_reducible refine (spec_l01Cur_wide.calls g s0_0 Uc Xc 16777216 Mb Ob Ub w0 _ ?side1 ?side2 A4.out).mono ?_
     (case side1 => exact pS47_ HI0.out); (case side2 => exact pT47_ HB.out); rintro e w14 ⟨rfl, hi, hb, hk⟩; refine ⟨_, rfl, ?_⟩
     have n_ := an_ (KeepBut.blk hk (pk_ Ja.out) Kc.out (by simp)) <| an_ (KeepBut.trans (pK_ HK.out) hk (.inl rfl)) <| an_ (hb) <| D (hi)
     clear Ja HK HB HI0;obtain ⟨Ja,HK,HB,HI0⟩:=n_;refine hK.out _ _ ⟨Ka,adz_v124,m9_,(by rw [ha.out];exact putSel_upk 2 hb_ rfl rfl rfl),fun _=>(pk_ Ja.out),fun h0_=>absurd ((hon 1 (by kernel_rfl)).symm.trans h0_) (by decide),(pK_ HK.out),(pT47_ HB.out),fun _ h1_=>absurd ((hon 3 (by kernel_rfl)).symm.trans h1_) (by decide),fun _ h1_=>absurd ((up_self b 5).symm.trans h1_) (by decide),fun _ _=>(pS47_ HI0.out),fun h0_=>absurd ((hoff 6 (by kernel_rfl)).symm.trans h0_) (by decide),fun h0_=>absurd ((hoff 6 (by kernel_rfl)).symm.trans h0_) (by decide),fun h0_ _=>absurd ((hoff 8 (by kernel_rfl)).symm.trans h0_) (by decide),fun h0_=>absurd ((hoff 12 (by kernel_rfl)).symm.trans h0_) (by decide),fun h0_=>absurd ((hoff 14 (by kernel_rfl)).symm.trans h0_) (by decide),fun h0_=>absurd ((hoff 9 (by kernel_rfl)).symm.trans h0_) (by decide)⟩
    refine steps_cons ?_ ?_
    ·rintro b a w' ⟨Ka, adz_v124, m9_, ha, Q_BK113, Q_HI0, Q_HK, Q_HB, Q_HI0_e1, Q_HI0_e3, Q_HI0_e5, Q_HO125, Q_HA_HO125, Q_HI0_e8, Q_HI0_e12, Q_BK113_e14, Q_X9_⟩ hb_ hon hoff
     refine ⟨_, rfl, fun K hK => ?_⟩
     have e4 : a.tmps[4]? = some (I L Jb) := by rw [ha]; exact putSel_on (e := (1, 4, I L Jb)) 0 rfl rfl (hon 1 (by kernel_rfl)) rfl
     have e6 : a.tmps[6]? = some (I L Kb) := by rw [ha]; exact putSel_on (e := (3, 6, I L Kb)) 1 rfl rfl (hon 3 (by kernel_rfl)) rfl
     have e8 : a.tmps[8]? = some (I L Mb) := by rw [ha]; exact putSel_on (e := (5, 8, I L Mb)) 2 rfl rfl (hon 5 (by kernel_rfl)) rfl
     replace ha:=D ha;have Ja:=D (Q_BK113 (hoff 14 (by kernel_rfl)));have HK:=D Q_HK;have HB:=D Q_HB;refine Kd.R_lit_step (Kd.int .i64) _ 3 ?hg (N:=9) ?hd (xs:=([Jb,Kb,Mb]:List Int)) (inner:=[I L Jb,I L Kb,I L Mb]) (ok:=fun _=>True) (okp:=fun _=>True) ?hr ?hp (fun _ hk=>hk) trivial (Below.refl _ _) (Nat.le_refl _) (by simp) ?_;(case hd=>rfl);(case hg=>rfl);(case hr=>first|(go_simp;done)|(go_simp;rfl));(case hp=>exact (Reps.one (show Kd.M (Kd.int .i64) _ _ _ Jb [I L Jb] from rfl) (Reps.one (show Kd.M (Kd.int .i64) _ _ _ Kb [I L Kb] from rfl) (Reps.one (show Kd.M (Kd.int .i64) _ _ _ Mb [I L Mb] from rfl) (Reps.none _ _)))));intro Ka w15 ho16 hb hg_ hnew_;clear hg_ hnew_;(first|rw [← Ny123.out] at ho16|(simp only [Int.reduceToNat] at ho16;rw [← Ny123.out] at ho16));have n0_:=D (Kd.R_lower ho16 (keep_size (w:=w) (g:=g) (row:=none) (pK_ HK.out)));have n2_:=D (blk_below (pk_ Ja.out) hb);have n3_:=D (KeepBut.trans (pK_ HK.out) (KeepBut.of_below hb g none) (.inl rfl));have n4_:=D (below_step (pB_ HB.out) hb)
     have z_HI0_e5:=fun (h0_:b 5=true) (h1_:b 8=false)=>(show IsS47 w0 w15 g s0_0 Ob Ub from by first|exact (IsS47.below (by repeat (first|(with_reducible first|exact (Q_HI0_e5 h0_ h1_)|apply IsS47.alloc|apply IsS47.drewN|apply IsS47.drew|apply IsS47.set_1|apply IsS47.set_2|refine IsS47.far ?_ Od.out _)|exact (Q_HI0_e5 h0_ h1_))) hb))
     have z_HI0_e8:=fun (h0_:b 8=true) (h1_:b 12=false)=>(show IsS47 w0 w15 g s0_0 Xb Jc from by first|exact (IsS47.below (by repeat (first|(with_reducible first|exact (Q_HI0_e8 h0_ h1_)|apply IsS47.alloc|apply IsS47.drewN|apply IsS47.drew|apply IsS47.set_1|apply IsS47.set_2|refine IsS47.far ?_ Od.out _)|exact (Q_HI0_e8 h0_ h1_))) hb))
     have z_HI0_e12:=fun (h0_:b 12=true)=>(show IsS47 w0 w15 g s0_0 Jd Md from by first|exact (IsS47.below (by repeat (first|(with_reducible first|exact (Q_HI0_e12 h0_)|apply IsS47.alloc|apply IsS47.drewN|apply IsS47.drew|apply IsS47.set_1|apply IsS47.set_2|refine IsS47.far ?_ Od.out _)|exact (Q_HI0_e12 h0_))) hb))
     clear Ja;clear HK;clear HB;have Xa:=n0_;have Ja:=n2_;have HK:=n3_;have HB:=n4_;clear n0_ n2_ n3_ n4_;clear hb ho16;obtain ⟨Me,Ud,eo17⟩:=Kd.R_slice Xa.out;subst eo17;obtain ⟨ado17,fo17,_⟩:=Kd.at_int (Kd.R_reads' Xa.out).2.2 0 (by decide) (by rw [Ny123.out];simp)
     cases fo17
     refine hK.out _ _ ⟨Y (some ado17) y123.length Ud,ado17,m9_,(by rw [ha.out];exact putSel_upk 3 hb_ rfl rfl rfl),fun _=>(pk_ Ja.out),fun h0_=>absurd ((hon 1 (by kernel_rfl)).symm.trans h0_) (by decide),(pK_ HK.out),(pB_ HB.out),fun _ h1_=>absurd ((hon 3 (by kernel_rfl)).symm.trans h1_) (by decide),fun _ h1_=>absurd ((hon 5 (by kernel_rfl)).symm.trans h1_) (by decide),z_HI0_e5,fun _=>(pR_ Xa.out),fun _=>⟨_,rfl⟩,z_HI0_e8,z_HI0_e12,fun h0_=>absurd ((hoff 14 (by kernel_rfl)).symm.trans h0_) (by decide),fun h0_=>absurd ((hoff 9 (by kernel_rfl)).symm.trans h0_) (by decide)⟩
    refine steps_cons ?_ ?_
    ·rintro b a w' ⟨Ka, adz_v124, m9_, ha, Q_BK113, Q_HI0, Q_HK, Q_HB, Q_HI0_e1, Q_HI0_e3, Q_HI0_e5, Q_HO125, Q_HA_HO125, Q_HI0_e8, Q_HI0_e12, Q_BK113_e14, Q_X9_⟩ hb_ hon hoff
     refine ⟨_, rfl, fun K hK => ?_⟩
     have e10 : a.tmps[10]? = some (.pointer (some ⟨g, 0, none⟩)) := by rw [ha]; exact (putSel_off rfl).trans rfl
     replace ha:=D ha;have Ja:=D (Q_BK113 (hoff 14 (by kernel_rfl)));have HK:=D Q_HK;have HB:=D Q_HB;have HI0:=D (Q_HI0_e5 (hon 5 (by kernel_rfl)) hb_);refine goes_ Try.func24 (by kernel_rfl) rfl #[.pointer (some ⟨g,0,none⟩),I L 3] (by rfl) rfl rfl (by first|(simp only [List.map_toArray,List.map_cons,List.map_nil,Act.eval,Array.getD_eq_getD_getElem?,Option.getD_some,e10];done)|(simp only [List.map_toArray,List.map_cons,List.map_nil,Act.eval,Array.getD_eq_getD_getElem?,Option.getD_some,e10];rfl)) ?_;with_reducible refine (spec_l01Cur_pick.calls g s0_0 Ob Ub 3 Ma Xb Jc w0 _ ?side1 ?side2 A5.out).mono ?_
     (case side1=>exact pS47_ HI0.out);(case side2=>exact pT47_ HB.out);rintro e w15 ⟨rfl,hi,hb,hk⟩;refine ⟨_,rfl,?_⟩;have n0_:=D (KeepBut.blk hk (pk_ Ja.out) Kc.out (by simp));have n1_:=D (KeepBut.trans (pK_ HK.out) hk (.inl rfl));have n2_:=D (hb);have n3_:=D (hi)
     have z_HO125:=fun (h0_:b 6=true)=>(show Kd.R (Kd.int .i64) 3 w15 w.heap.size (fun _=>True) Ka y123 from by first|exact (Kd.R_mono (Kd.R_keep (IsS47.apart (show IsS47 w0 _ g s0_0 Ob Ub from pS47_ HI0.out) (pR_ (Q_HO125 h0_)) (by decide)) hk (fun _ h=>h.2)) (fun _ h=>h.1))|exact Kd.R_mono (Kd.R_mono (Kd.R_keep (IsS47.apart (show IsS47 w0 _ g s0_0 Ob Ub from pS47_ HI0.out) (pR_ (Q_HO125 h0_)) (by decide)) hk (fun _ h=>h.2)) (fun _ h=>h.1)) (fun _ h_=>by first|trivial|exact h_|exact h_.1))
     clear Ja;clear HK;clear HB;clear HI0;have Ja:=n0_;have HK:=n1_;have HB:=n2_;have HI0:=n3_;clear n0_ n1_ n2_ n3_;refine hK.out _ _ ⟨Ka,adz_v124,m9_,(by rw [ha.out];exact putSel_upk 4 hb_ rfl rfl rfl),fun _=>(pk_ Ja.out),fun h0_=>absurd ((hon 1 (by kernel_rfl)).symm.trans h0_) (by decide),(pK_ HK.out),(pT47_ HB.out),fun _ h1_=>absurd ((hon 3 (by kernel_rfl)).symm.trans h1_) (by decide),fun _ h1_=>absurd ((hon 5 (by kernel_rfl)).symm.trans h1_) (by decide),fun _ h1_=>absurd ((up_self b 8).symm.trans h1_) (by decide),z_HO125,Q_HA_HO125,fun _ _=>(pS47_ HI0.out),fun h0_=>absurd ((hoff 12 (by kernel_rfl)).symm.trans h0_) (by decide),fun h0_=>absurd ((hoff 14 (by kernel_rfl)).symm.trans h0_) (by decide),fun h0_=>absurd ((hoff 9 (by kernel_rfl)).symm.trans h0_) (by decide)⟩
    refine steps_cons ?_ ?_
    ·rintro b a w' ⟨Ka, adz_v124, m9_, ha, Q_BK113, Q_HI0, Q_HK, Q_HB, Q_HI0_e1, Q_HI0_e3, Q_HI0_e5, Q_HO125, Q_HA_HO125, Q_HI0_e8, Q_HI0_e12, Q_BK113_e14, Q_X9_⟩ hb_ hon hoff
     refine ⟨_, rfl, fun K hK => ?_⟩
     have e9 : a.tmps[9]? = some (Ka) := by rw [ha]; exact putSel_on (e := (6, 9, Ka)) 3 rfl rfl (hon 6 (by kernel_rfl)) rfl
     have e11 : a.tmps[11]? = some (I L Ma) := by rw [ha]; exact putSel_on (e := (8, 11, I L Ma)) 4 rfl rfl (hon 8 (by kernel_rfl)) rfl
     replace ha:=D ha;have Ja:=D (Q_BK113 (hoff 14 (by kernel_rfl)));have HK:=D Q_HK;have HB:=D Q_HB;have Xa:=D (Q_HO125 (hon 6 (by kernel_rfl)));have HA_HO125:=D (Q_HA_HO125 (hon 6 (by kernel_rfl)));obtain ⟨c_,hv_⟩:=HA_HO125.out;rw [hv_] at e9;refine value_ (w1:=w') (v:=.pointer (some (adz_v124.add (Ma).toNat))) (by rfl) rfl ?_ ?_
     ·go_simp
      (try simp only [i64_w])
      try rfl
     refine hK.out _ _ ⟨Ka,adz_v124,(.pointer (some (adz_v124.add (Ma).toNat))),(by rw [ha.out];exact putSel_upk 5 hb_ rfl rfl rfl),Q_BK113,fun h0_=>absurd ((hon 1 (by kernel_rfl)).symm.trans h0_) (by decide),Q_HK,Q_HB,fun _ h1_=>absurd ((hon 3 (by kernel_rfl)).symm.trans h1_) (by decide),fun _ h1_=>absurd ((hon 5 (by kernel_rfl)).symm.trans h1_) (by decide),fun _ h1_=>absurd ((hon 8 (by kernel_rfl)).symm.trans h1_) (by decide),Q_HO125,Q_HA_HO125,Q_HI0_e8,Q_HI0_e12,fun h0_=>absurd ((hoff 14 (by kernel_rfl)).symm.trans h0_) (by decide),fun _=>rfl⟩
    refine steps_cons ?_ ?_
    ·rintro b a w' ⟨Ka, adz_v124, m9_, ha, Q_BK113, Q_HI0, Q_HK, Q_HB, Q_HI0_e1, Q_HI0_e3, Q_HI0_e5, Q_HO125, Q_HA_HO125, Q_HI0_e8, Q_HI0_e12, Q_BK113_e14, Q_X9_⟩ hb_ hon hoff
     refine ⟨_, rfl, fun K hK => ?_⟩
     have e12 : a.tmps[12]? = some (m9_) := by rw [ha]; exact putSel_on (e := (9, 12, m9_)) 5 rfl rfl (hon 9 (by kernel_rfl)) rfl
     rw [Q_X9_ (hon 9 (by kernel_rfl))] at e12;replace ha:=D ha;have Ja:=D (Q_BK113 (hoff 14 (by kernel_rfl)));have HK:=D Q_HK;have HB:=D Q_HB;have Xa:=D (Q_HO125 (hon 6 (by kernel_rfl)));have HA_HO125:=D (Q_HA_HO125 (hon 6 (by kernel_rfl)));obtain ⟨c_,hv_⟩:=HA_HO125.out;have hF_:=Xa.out;rw [hv_] at hF_;obtain ⟨ad_,ea_,hx_⟩:=Kd.at_int (Kd.R_reads' hF_).2.2 Ma (of_eq_true pi129) (of_eq_true qi129);cases ea_;refine value_ (w1:=w') (v:=I L (rd y123 Ma)) (by rfl) rfl ?_ ?_
     ·go_simp
      (try simp only [i64_w])
      try rfl
     refine hK.out _ _ ⟨Ka,adz_v124,m9_,(by rw [ha.out];exact putSel_upk 6 hb_ rfl rfl rfl),Q_BK113,fun h0_=>absurd ((hon 1 (by kernel_rfl)).symm.trans h0_) (by decide),Q_HK,Q_HB,fun _ h1_=>absurd ((hon 3 (by kernel_rfl)).symm.trans h1_) (by decide),fun _ h1_=>absurd ((hon 5 (by kernel_rfl)).symm.trans h1_) (by decide),fun _ h1_=>absurd ((hon 8 (by kernel_rfl)).symm.trans h1_) (by decide),Q_HO125,Q_HA_HO125,Q_HI0_e8,Q_HI0_e12,fun h0_=>absurd ((hoff 14 (by kernel_rfl)).symm.trans h0_) (by decide),Q_X9_⟩
    refine steps_cons ?_ ?_
    ·rintro b a w' ⟨Ka, adz_v124, m9_, ha, Q_BK113, Q_HI0, Q_HK, Q_HB, Q_HI0_e1, Q_HI0_e3, Q_HI0_e5, Q_HO125, Q_HA_HO125, Q_HI0_e8, Q_HI0_e12, Q_BK113_e14, Q_X9_⟩ hb_ hon hoff
     refine ⟨_, rfl, fun K hK => ?_⟩
     have e14 : a.tmps[14]? = some (.pointer (some ⟨g, 0, none⟩)) := by rw [ha]; exact (putSel_off rfl).trans rfl
     replace ha:=D ha;have Ja:=D (Q_BK113 (hoff 14 (by kernel_rfl)));have HK:=D Q_HK;have HB:=D Q_HB;have HI0:=D (Q_HI0_e8 (hon 8 (by kernel_rfl)) hb_);refine goes_ Try.func24 (by kernel_rfl) rfl #[.pointer (some ⟨g,0,none⟩),I L 40] (by rfl) rfl rfl (by first|(simp only [List.map_toArray,List.map_cons,List.map_nil,Act.eval,Array.getD_eq_getD_getElem?,Option.getD_some,e14];done)|(simp only [List.map_toArray,List.map_cons,List.map_nil,Act.eval,Array.getD_eq_getD_getElem?,Option.getD_some,e14];rfl)) ?_;with_reducible refine (spec_l01Cur_pick.calls g s0_0 Xb Jc 40 Oa Jd Md w0 _ ?side1 ?side2 A8.out).mono ?_
     (case side1=>exact pS47_ HI0.out);(case side2=>exact pT47_ HB.out);rintro e w16 ⟨rfl,hi,hb,hk⟩;refine ⟨_,rfl,?_⟩;have n0_:=D (KeepBut.blk hk (pk_ Ja.out) Kc.out (by simp));have n1_:=D (KeepBut.trans (pK_ HK.out) hk (.inl rfl));have n2_:=D (hb);have n3_:=D (hi)
     have z_HO125:=fun (h0_:b 6=true)=>(show Kd.R (Kd.int .i64) 3 w16 w.heap.size (fun _=>True) Ka y123 from by first|exact (Kd.R_mono (Kd.R_keep (IsS47.apart (show IsS47 w0 _ g s0_0 Xb Jc from pS47_ HI0.out) (pR_ (Q_HO125 h0_)) (by decide)) hk (fun _ h=>h.2)) (fun _ h=>h.1))|exact Kd.R_mono (Kd.R_mono (Kd.R_keep (IsS47.apart (show IsS47 w0 _ g s0_0 Xb Jc from pS47_ HI0.out) (pR_ (Q_HO125 h0_)) (by decide)) hk (fun _ h=>h.2)) (fun _ h=>h.1)) (fun _ h_=>by first|trivial|exact h_|exact h_.1))
     clear Ja;clear HK;clear HB;clear HI0;have Ja:=n0_;have HK:=n1_;have HB:=n2_;have HI0:=n3_;clear n0_ n1_ n2_ n3_;refine hK.out _ _ ⟨Ka,adz_v124,m9_,(by rw [ha.out];exact putSel_upk 7 hb_ rfl rfl rfl),fun _=>(pk_ Ja.out),fun h0_=>absurd ((hon 1 (by kernel_rfl)).symm.trans h0_) (by decide),(pK_ HK.out),(pT47_ HB.out),fun _ h1_=>absurd ((hon 3 (by kernel_rfl)).symm.trans h1_) (by decide),fun _ h1_=>absurd ((hon 5 (by kernel_rfl)).symm.trans h1_) (by decide),fun _ h1_=>absurd ((hon 8 (by kernel_rfl)).symm.trans h1_) (by decide),z_HO125,Q_HA_HO125,fun _ h1_=>absurd ((up_self b 12).symm.trans h1_) (by decide),fun _=>(pS47_ HI0.out),fun h0_=>absurd ((hoff 14 (by kernel_rfl)).symm.trans h0_) (by decide),Q_X9_⟩
    refine steps_cons ?_ ?_
    ·rintro b a w' ⟨Ka, adz_v124, m9_, ha, Q_BK113, Q_HI0, Q_HK, Q_HB, Q_HI0_e1, Q_HI0_e3, Q_HI0_e5, Q_HO125, Q_HA_HO125, Q_HI0_e8, Q_HI0_e12, Q_BK113_e14, Q_X9_⟩ hb_ hon hoff
     refine ⟨_, rfl, fun K hK => ?_⟩
     have e13 : a.tmps[13]? = some (I L (rd y123 Ma)) := by rw [ha]; exact putSel_on (e := (10, 13, I L (rd y123 Ma))) 6 rfl rfl (hon 10 (by kernel_rfl)) rfl
     have e15 : a.tmps[15]? = some (I L Oa) := by rw [ha]; exact putSel_on (e := (12, 15, I L Oa)) 7 rfl rfl (hon 12 (by kernel_rfl)) rfl
     replace ha:=D ha;have Ja:=D (Q_BK113 (hoff 14 (by kernel_rfl)));have HK:=D Q_HK;have HB:=D Q_HB;have Xa:=D (Q_HO125 (hon 6 (by kernel_rfl)));have HA_HO125:=D (Q_HA_HO125 (hon 6 (by kernel_rfl)));have HI0:=D (Q_HI0_e12 (hon 12 (by kernel_rfl)));refine value_ (w1:=w') (v:=.agg #[I L (rd y123 Ma),I L Oa]) (by rfl) rfl ?_ ?_
     ·go_simp
      (try simp only [i64_w])
      try rfl
     refine hK.out _ _ ⟨Ka,adz_v124,m9_,(by rw [ha.out];exact putSel_upk 8 hb_ rfl rfl rfl),Q_BK113,fun h0_=>absurd ((hon 1 (by kernel_rfl)).symm.trans h0_) (by decide),Q_HK,Q_HB,fun _ h1_=>absurd ((hon 3 (by kernel_rfl)).symm.trans h1_) (by decide),fun _ h1_=>absurd ((hon 5 (by kernel_rfl)).symm.trans h1_) (by decide),fun _ h1_=>absurd ((hon 8 (by kernel_rfl)).symm.trans h1_) (by decide),Q_HO125,Q_HA_HO125,fun _ h1_=>absurd ((hon 12 (by kernel_rfl)).symm.trans h1_) (by decide),Q_HI0_e12,fun h0_=>absurd ((hoff 14 (by kernel_rfl)).symm.trans h0_) (by decide),Q_X9_⟩
    refine steps_cons ?_ ?_
    ·rintro b a w' ⟨Ka, adz_v124, m9_, ha, Q_BK113, Q_HI0, Q_HK, Q_HB, Q_HI0_e1, Q_HI0_e3, Q_HI0_e5, Q_HO125, Q_HA_HO125, Q_HI0_e8, Q_HI0_e12, Q_BK113_e14, Q_X9_⟩ hb_ hon hoff
     refine ⟨_, rfl, fun K hK => ?_⟩
     have e2 : a.tmps[2]? = some (.pointer (some ⟨Ua, 0, none⟩)) := by rw [ha]; exact (putSel_off rfl).trans rfl
     have e16:a.tmps[16]?=some (.agg #[I L (rd y123 Ma),I L Oa]):=by rw [ha];exact putSel_on (e:=(13,16,.agg #[I L (rd y123 Ma),I L Oa])) 8 rfl rfl (hon 13 (by kernel_rfl)) rfl
     replace ha:=D ha;have Ja:=D (Q_BK113 hb_);have HK:=D Q_HK;have HB:=D Q_HB;have Xa:=D (Q_HO125 (hon 6 (by kernel_rfl)));have HA_HO125:=D (Q_HA_HO125 (hon 6 (by kernel_rfl)));have HI0:=D (Q_HI0_e12 (hon 12 (by kernel_rfl)));obtain ⟨Xd,eo20⟩:=HA_HO125.out;clear HA_HO125;(try dsimp only at eo20);subst eo20;have hs21:w'.cell? ⟨Ua,0,none⟩=some (I L 0):=bc_ Ja.out 0;have hfs21:=blk_frozen Ja.out 0;have hs22:w'.cell? ⟨Ua,1,none⟩=some (I L 0):=bc_ Ja.out 1;have hfs22:=blk_frozen Ja.out 1;refine skip_ (w1:=?_) (by rfl) rfl ?_ ?_;rotate_left
     ·go_simp
      rfl
     refine hK.out _ _ ⟨Y (some adz_v124) y123.length Xd,adz_v124,m9_,(by rw [ha.out];exact putSel_none (v:=undef) rfl),fun h0_=>absurd ((up_self b 14).symm.trans h0_) (by decide),fun h0_=>absurd ((hon 1 (by kernel_rfl)).symm.trans h0_) (by decide),(pK_ HK.out),(pT47_ HB.out),fun _ h1_=>absurd ((hon 3 (by kernel_rfl)).symm.trans h1_) (by decide),fun _ h1_=>absurd ((hon 5 (by kernel_rfl)).symm.trans h1_) (by decide),fun _ h1_=>absurd ((hon 8 (by kernel_rfl)).symm.trans h1_) (by decide),fun _=>(rM_ (Kd.R_types Xa.out Ja.out (by decide)) (fun _ hk=>trivial)),fun _=>⟨_,rfl⟩,fun _ h1_=>absurd ((hon 12 (by kernel_rfl)).symm.trans h1_) (by decide),fun _=>(pS47_ HI0.out),fun _=>(by exact pP_ Ja.out),Q_X9_⟩
    exact steps_nil
   rintro b a w21 hall ⟨Ka,adz_v124,m9_,ha,Q_BK113,Q_HI0,Q_HK,Q_HB,Q_HI0_e1,Q_HI0_e3,Q_HI0_e5,Q_HO125,Q_HA_HO125,Q_HI0_e8,Q_HI0_e12,Q_BK113_e14,Q_X9_⟩;clear Ja HB HI0 HK;have hb1_:=hall 1 (by kernel_rfl);have hb3_:=hall 3 (by kernel_rfl);have hb5_:=hall 5 (by kernel_rfl);have hb6_:=hall 6 (by kernel_rfl);have hb8_:=hall 8 (by kernel_rfl);have hb9_:=hall 9 (by kernel_rfl);have hb10_:=hall 10 (by kernel_rfl);have hb12_:=hall 12 (by kernel_rfl);have hb13_:=hall 13 (by kernel_rfl);have hb14_:=hall 14 (by kernel_rfl);subst ha;obtain rfl:=Q_X9_ hb9_;simp only [putSel,hb1_,hb3_,hb5_,hb6_,hb8_,hb9_,hb10_,hb12_,hb13_,hb14_,if_true,Act.put,List.setIfInBounds_toArray,List.set_cons_zero,List.set_cons_succ];clear Q_BK113;clear Q_HI0;have HK:=D Q_HK;clear Q_HK;have HB:=D Q_HB;clear Q_HB;clear Q_HI0_e1;clear Q_HI0_e3;clear Q_HI0_e5;have Xa:=D (Q_HO125 hb6_);clear Q_HO125;have HA_HO125:=D (Q_HA_HO125 hb6_);clear Q_HA_HO125;clear Q_HI0_e8;have HI0:=D (Q_HI0_e12 hb12_);clear Q_HI0_e12;have Ja:=D (Q_BK113_e14 hb14_);clear Q_BK113_e14;clear hall hb1_ hb3_ hb5_ hb6_ hb8_ hb9_ hb10_ hb12_ hb13_ hb14_;obtain ⟨Oe,eo22⟩:=HA_HO125.out;clear HA_HO125;(try dsimp only at eo22);subst eo22
   try go_wp2
   refine bodyPost_ret (results_cell_row rfl _ _ Ua 32 #[I L (rd y123 Ma),I L Oa] (0,0) _ rfl (pk_ Ja.out) Try.underlying32 rfl (by kernel_rfl)) rfl ?_;exact ⟨er_,pS47_ HI0.out,pT47_ HB.out,pK_ HK.out⟩
  ·rw [if_neg c7] at H
   exact absurd H (by simp)
 ·rw [if_neg c6] at H
  exact absurd H (by simp)

/-! ### spec_l01Cur_size: function 33 -/
def spec_l01Cur_size.f (s0_0 : List Int) (s0_1 s0_2 a1 : Int) : Option (Int × Int × Int) := (spec_l01Cur_pick.f s0_0 s0_1 s0_2 (wrap64 ((mn a1 (wrap64 (1 + (wrap64 ((s0_0.length : Int) / 8))))) + 1))).bind fun bt133 => (some (bt133.1, bt133.2.1, bt133.2.2))
set_option maxHeartbeats 8000000 in
set_option maxRecDepth 100000 in
theorem spec_l01Cur_size.calls (g : Nat) (s0_0 : List Int) (s0_1 s0_2 a1 r1 r2 r3 : Int) (w0 w : World) (hI : IsS47 w0 w g s0_0 s0_1 s0_2) (hB : Below w0.heap.size w0 w) (h : spec_l01Cur_size.f s0_0 s0_1 s0_2 a1 = some (r1, r2, r3)) :
  Calls Try.prog 33 #[.pointer (some ⟨g, 0, none⟩), I L a1] w fun e w' => e = .returned (I L r1) ∧ IsS47 w0 w' g s0_0 r2 r3 ∧ Below w0.heap.size w0 w' ∧ KeepBut w w' g none := by
 have HI0 := D hI
 have HK := D (KeepBut.refl w g none)
 have HL := D hB.size
 clear hI
 have HW0 := D hB.size
 have HB := D hB
 clear hB
 have H:((spec_l01Cur_pick.f s0_0 s0_1 s0_2 (wrap64 ((mn a1 (wrap64 (1 + (wrap64 ((s0_0.length:Int) / 8))))) + 1))).bind fun bt133=>(some (bt133.1,bt133.2.1,bt133.2.2)))=some (r1,r2,r3):=h
 clear h
 obtain ⟨ji3, hji3⟩ : ∃ j_ : Int, (mn a1 (wrap64 (1 + (wrap64 ((s0_0.length : Int) / 8))))) = j_ := ⟨_, rfl⟩
 replace H:((spec_l01Cur_pick.f s0_0 s0_1 s0_2 (wrap64 ((ji3) + 1))).bind fun bt133=>(some (bt133.1,bt133.2.1,bt133.2.2)))=some (r1,r2,r3):=by first|(rw [hji3] at H;exact H)|(simp only [hji3] at H ⊢;exact H)
 have hji3_ : (if (wrap64 (1 + (wrap64 ((s0_0.length : Int) / 8)))) < a1 then (wrap64 (1 + (wrap64 ((s0_0.length : Int) / 8)))) else a1) = ji3 := hji3
 obtain ⟨⟨t133, t134, t135⟩, A40, H⟩ := bs_.mp H
 (try dsimp only at H)
 have A4 := D A40
 clear A40
 simp only [Option.some.injEq, Prod.mk.injEq] at H
 obtain ⟨rfl, rfl, rfl⟩ := H
 obtain ⟨ASz5_0, cSz5_0, HGz5, hgz5, HSz5_0⟩ := HI0.out
 have hcz5_0 := cellS47_0 HGz5
 have hcz5_1 := cellS47_1 HGz5
 have hcz5_2 := cellS47_2 HGz5
 have hfz5_1 := blk_frozen HGz5 1
 have hfz5_2 := blk_frozen HGz5 2
 clear HGz5 hgz5
 go_enter Try.func33, Try.ntmps33
 go_wp2_with (first|((with_reducible refine gate_callee (f:=24) rfl ?_);refine goesL_ (some 16) rfl rfl Try.func24 (by kernel_rfl) rfl #[.pointer (some ⟨g,0,none⟩),I L (wrap64 ((ji3) + 1))] rfl (by (try simp only [List.map_toArray,List.map_cons,List.map_nil]);first|done|(simp only [hji3];rfl)|rfl|(simp only [List.length_drop,List.length_take];rfl)) ?_;(with_reducible refine (spec_l01Cur_pick.calls g s0_0 s0_1 s0_2 (wrap64 ((ji3) + 1)) t133 t134 t135 w0 _ ?side1 ?side2 A4.out).mono ?_);(case side1=>exact pS47_ HI0.out);(case side2=>exact pT47_ HB.out);rintro e w6 ⟨rfl,hi,hb,hk⟩;refine ⟨_,rfl,?_⟩;have n_:=an_ (KeepBut.trans (pK_ HK.out) hk (.inl rfl))<|an_ (hb)<|D (hi);clear HK HB HI0;obtain ⟨HK,HB,HI0⟩:=n_;(try clear hb);(try clear hk);(try clear hi)))
 go_ret
 exact ⟨by first|rfl|(simp [errW_none,errW_some] <;> rfl)|(simp only [← hji3];first|rfl|(simp [errW_none,errW_some] <;> rfl))|(simp [*,errW_none,errW_some] <;> rfl),pS47_ HI0.out,pT47_ HB.out,pK_ HK.out⟩

/-! ### spec_ItemOk: function 13 -/
def spec_ItemOk.f (a0_0 a0_1 : Int) : Option (Bool) := if a0_0 ≥ 0 then (if a0_0 ≤ 1000000000000 then (if a0_1 ≥ 0 then (some (decide (a0_1 ≤ 9999))) else (some false)) else (some false)) else (some false)
set_option maxHeartbeats 8000000 in
set_option maxRecDepth 100000 in
theorem spec_ItemOk.calls (a0_0 a0_1 : Int) (r : Bool) (w : World) (h : spec_ItemOk.f a0_0 a0_1 = some r) :
  Calls Try.prog 13 #[.agg #[I L a0_0, I L a0_1]] w fun e w' => e = .returned (.bool r) ∧ Below w.heap.size w w' := by
 have hu32 := Try.underlying32
 have HB := D (Below.refl w.heap.size w)
 have H : (if a0_0 ≥ 0 then (if a0_0 ≤ 1000000000000 then (if a0_1 ≥ 0 then (some (decide (a0_1 ≤ 9999))) else (some false)) else (some false)) else (some false)) = some r := h
 clear h
 by_cases c2 : a0_0 ≥ 0
 ·rw [if_pos c2] at H
  have c2b0 : decide (0 ≤ a0_0) = true := decide_eq_true c2; clear c2
  by_cases c3 : a0_0 ≤ 1000000000000
  ·rw [if_pos c3] at H
   have c3b0 : decide (a0_0 ≤ 1000000000000) = true := decide_eq_true c3; clear c3
   by_cases c4 : a0_1 ≥ 0
   ·rw [if_pos c4] at H
    have c4b0 : decide (0 ≤ a0_1) = true := decide_eq_true c4; clear c4; obtain rfl := Option.some.inj H; go_enter Try.func13, Try.ntmps13
    go_wp2_with (first|((with_reducible refine gate_dst (N:=1) rfl ?_);refine bx_ (N:=1) (cs:=#[I L a0_0,I L a0_1]) (t:=32) ?_;intro gb136 hg w5 hbox hb;have n_:=an_ (below_step (pB_ HB.out) hb)<|an_ (hbox)<|an_ (bg_ hg (pB_ HB.out):w.heap.size≤gb136)<|D (bg_ hg (pB_ HB.out):w.heap.size≤gb136);clear HB;obtain ⟨HB,BK136,GW136,GE136⟩:=n_;clear hb hbox hg;have hcz6_0:=cells2 BK136.out))
    go_ret; exact ⟨er_, pB_ HB.out⟩
   ·rw [if_neg c4] at H
    have c4b0 : decide (0 ≤ a0_1) = false := decide_eq_false c4; clear c4; obtain rfl := Option.some.inj H; go_enter Try.func13, Try.ntmps13
    go_wp2_with (first|((with_reducible refine gate_dst (N:=1) rfl ?_);refine bx_ (N:=1) (cs:=#[I L a0_0,I L a0_1]) (t:=32) ?_;intro gb136 hg w7 hbox hb;have n_:=an_ (below_step (pB_ HB.out) hb)<|an_ (hbox)<|an_ (bg_ hg (pB_ HB.out):w.heap.size≤gb136)<|D (bg_ hg (pB_ HB.out):w.heap.size≤gb136);clear HB;obtain ⟨HB,BK136,GW136,GE136⟩:=n_;clear hb hbox hg;have hcz8_0:=cells2 BK136.out))
    go_ret; exact ⟨er_, pB_ HB.out⟩
  ·rw [if_neg c3] at H
   have c3b0 : decide (a0_0 ≤ 1000000000000) = false := decide_eq_false c3; clear c3; obtain rfl := Option.some.inj H; go_enter Try.func13, Try.ntmps13
   go_wp2_with (first|((with_reducible refine gate_dst (N:=1) rfl ?_);refine bx_ (N:=1) (cs:=#[I L a0_0,I L a0_1]) (t:=32) ?_;intro gb136 hg w9 hbox hb;have n_:=an_ (below_step (pB_ HB.out) hb)<|an_ (hbox)<|an_ (bg_ hg (pB_ HB.out):w.heap.size≤gb136)<|D (bg_ hg (pB_ HB.out):w.heap.size≤gb136);clear HB;obtain ⟨HB,BK136,GW136,GE136⟩:=n_;clear hb hbox hg;have hcz10_0:=cells2 BK136.out))
   go_ret; exact ⟨er_, pB_ HB.out⟩
 ·rw [if_neg c2] at H
  have c2b0 : decide (0 ≤ a0_0) = false := decide_eq_false c2; clear c2; obtain rfl := Option.some.inj H; go_enter Try.func13, Try.ntmps13
  go_wp2_with (first|((with_reducible refine gate_dst (N:=1) rfl ?_);refine bx_ (N:=1) (cs:=#[I L a0_0,I L a0_1]) (t:=32) ?_;intro gb136 hg w11 hbox hb;have n_:=an_ (below_step (pB_ HB.out) hb)<|an_ (hbox)<|an_ (bg_ hg (pB_ HB.out):w.heap.size≤gb136)<|D (bg_ hg (pB_ HB.out):w.heap.size≤gb136);clear HB;obtain ⟨HB,BK136,GW136,GE136⟩:=n_;clear hb hbox hg;have hcz12_0:=cells2 BK136.out))
  go_ret; exact ⟨er_, pB_ HB.out⟩

end Go.Proofs.Ytcindcakncngnaa.PFnHeapSorts
