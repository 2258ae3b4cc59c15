-- by a program of this session's, over the kit's words
import Derived.Test.YtcindcakncngnaaPZFnHeapSorts
import Derived.Test.YtcindcakncngnaaPFnHeapSortsx0
import Derived.Test.YtcindcakncngnaaPFnHeapSortsx7
namespace Go.Proofs.Ytcindcakncngnaa.PFnHeapSorts
open Go.RowKit Go.Proofs.YtcindcakncngnaaW.PrintWords Go.Proofs.YtcindcakncngnaaW.PrintLast Go.Proofs.YtcindcakncngnaaW.PrintMore Go.Proofs.YtcindcakncngnaaV Go.Proofs.Ytcindcakncngnaa.ZFnHeapSorts
open Go.Value renaming int → I, slice → Y
open Go.IntKind renaming i64 → L
open Aside0 renaming mk → D
open Option renaming bind_eq_some_iff → bs_
attribute [local go_sem] max2_int min2_int max_two min_two max_three min_three max_four min_four   -- for this text's walks alone
set_option linter.unusedVariables false
set_option linter.unusedSimpArgs false

/-! ### impl_Heap_down: function 31 -/
mutual
def impl_Heap_down.l0 : Nat → Int → List (S32) → Option ((List (S32)))
 | 0, _, _ => none
 | k + 1,x1,x365000=>if (wrap64 ((wrap64 ((wrap64 (2 * x1)) + 1)) + 1)) < (x365000.length:Int) then (if 0≤(wrap64 ((wrap64 ((wrap64 (2 * x1)) + 1)) + 1)) then (if 0≤(wrap64 ((wrap64 (2 * x1)) + 1)) then (if (wrap64 ((wrap64 (2 * x1)) + 1)) < (x365000.length:Int) then ((impl_Ahead.f ((rd_T32 x365000 (wrap64 ((wrap64 ((wrap64 (2 * x1)) + 1)) + 1))).f0) ((rd_T32 x365000 (wrap64 ((wrap64 ((wrap64 (2 * x1)) + 1)) + 1))).f1) ((rd_T32 x365000 (wrap64 ((wrap64 (2 * x1)) + 1))).f0) ((rd_T32 x365000 (wrap64 ((wrap64 (2 * x1)) + 1))).f1)).bind fun t367=>(impl_Heap_down.j1 k x1 (wrap64 ((wrap64 (2 * x1)) + 1)) t367 x365000)) else (none)) else (none)) else (none)) else (impl_Heap_down.j1 k x1 (wrap64 ((wrap64 (2 * x1)) + 1)) false x365000)
def impl_Heap_down.j1 : Nat → Int → Int → Bool → List (S32) → Option ((List (S32)))
 | 0, _, _, _, _ => none
 | k + 1,x1,x4,x27,x365000=>if x27=true then (if (wrap64 (x4 + 1)) ≥ (x365000.length:Int) then (some x365000) else (if 0≤(wrap64 (x4 + 1)) then (if (wrap64 (x4 + 1)) < (x365000.length:Int) then (if 0≤x1 then (if x1 < (x365000.length:Int) then ((impl_Ahead.f ((rd_T32 x365000 (wrap64 (x4 + 1))).f0) ((rd_T32 x365000 (wrap64 (x4 + 1))).f1) ((rd_T32 x365000 x1).f0) ((rd_T32 x365000 x1).f1)).bind fun t370=>(if t370=true then (impl_Heap_down.l0 k (wrap64 (x4 + 1)) ((x365000.set (x1:Int).toNat (⟨(rd_T32 x365000 (wrap64 (x4 + 1))).f0,(rd_T32 x365000 (wrap64 (x4 + 1))).f1⟩:S32)).set ((wrap64 (x4 + 1)):Int).toNat (⟨(rd_T32 x365000 x1).f0,(rd_T32 x365000 x1).f1⟩:S32))) else (some x365000))) else (none)) else (none)) else (none)) else (none))) else (if x4 ≥ (x365000.length:Int) then (some x365000) else (if 0≤x4 then (if x4 < (x365000.length:Int) then (if 0≤x1 then (if x1 < (x365000.length:Int) then ((impl_Ahead.f ((rd_T32 x365000 x4).f0) ((rd_T32 x365000 x4).f1) ((rd_T32 x365000 x1).f0) ((rd_T32 x365000 x1).f1)).bind fun t377=>(if t377=true then (impl_Heap_down.l0 k x4 ((x365000.set (x1:Int).toNat (⟨(rd_T32 x365000 x4).f0,(rd_T32 x365000 x4).f1⟩:S32)).set (x4:Int).toNat (⟨(rd_T32 x365000 x1).f0,(rd_T32 x365000 x1).f1⟩:S32))) else (some x365000))) else (none)) else (none)) else (none)) else (none)))
end
def impl_Heap_down.f (k : Nat) (l0_0 : List (S32)) (a1 : Int) : Option ((List (S32))) := impl_Heap_down.l0 k a1 l0_0
def impl_Heap_down.T2 : Bool × List (List Nat × List Nat) := (true, [([], []), ([0], [0]), ([], []), ([2], [2]), ([3], [3]), ([1, 4], [1, 4]), ([5], [5]), ([6], [6]), ([7, 6], [6, 7]), ([6], [6]), ([9, 6], [6, 9]), ([8, 10, 6], [6, 8, 10]), ([11, 6], [6, 11]), ([6], [6]), ([13, 6], [6, 13]), ([6], [6]), ([14, 15, 6], [6, 14, 15]), ([16, 6], [6, 16]), ([12, 17, 6, 6], [6, 12, 17]), ([6, 18], [6, 18])])
def impl_Heap_down.B2 : List Nat := [0, 1, 0, 4, 12, 31, 63, 127, 255, 127, 639, 2047, 4095, 127, 8319, 127, 57471, 123007, 262143, 524287]
theorem impl_Heap_down.tab2 : rtab .any (opsOf Try.f31 2) = impl_Heap_down.T2 := by kernel_rfl
theorem impl_Heap_down.bits2 : waitsOk impl_Heap_down.T2.2 impl_Heap_down.B2 = true := by kernel_rfl
def impl_Heap_down.T4 : Bool × List (List Nat × List Nat) := (true, [([], []), ([], []), ([1], [1]), ([2], [2]), ([0, 3], [0, 3]), ([4], [4]), ([5], [5]), ([6, 5], [5, 6]), ([5], [5]), ([7, 8, 5], [5, 7, 8]), ([9, 5], [5, 9]), ([5], [5]), ([11, 5], [5, 11]), ([5], [5]), ([12, 13, 5], [5, 12, 13]), ([14, 5], [5, 14]), ([10, 15, 5, 5], [5, 10, 15]), ([16, 5], [5, 16]), ([5, 17], [5, 17])])
def impl_Heap_down.B4 : List Nat := [0, 0, 2, 6, 15, 31, 63, 127, 63, 511, 1023, 63, 2111, 63, 14399, 30783, 65535, 131071, 262143]
theorem impl_Heap_down.tab4 : rtab .any (opsOf Try.f31 4) = impl_Heap_down.T4 := by kernel_rfl
theorem impl_Heap_down.bits4 : waitsOk impl_Heap_down.T4.2 impl_Heap_down.B4 = true := by kernel_rfl
def impl_Heap_down.T5 : Bool × List (List Nat × List Nat) := (true, [([], []), ([0], [0]), ([], []), ([], []), ([3], [3]), ([], []), ([], []), ([6], [6]), ([], []), ([7, 8], [7, 8]), ([9], [9]), ([], []), ([11], [11]), ([], []), ([12, 13], [12, 13]), ([14], [14]), ([1, 2, 0, 1, 2, 6, 7, 8, 9, 10, 15], [1, 2]), ([16, 10, 0, 1, 2, 6, 7, 8, 9, 10, 15], [10, 16]), ([4, 5, 0, 1, 2, 3, 4, 5, 6, 7, 8, 9, 10, 11, 12, 13, 14, 15, 16, 17], [4, 5]), ([18, 15, 17, 0, 1, 2, 3, 4, 5, 6, 7, 8, 9, 10, 11, 12, 13, 14, 15, 16, 17], [15, 18])])
def impl_Heap_down.B5 : List Nat := [0, 1, 0, 0, 8, 0, 0, 64, 0, 448, 960, 0, 2048, 0, 14336, 30720, 65479, 131015, 262143, 524287]
theorem impl_Heap_down.tab5 : rtab .any (opsOf Try.f31 5) = impl_Heap_down.T5 := by kernel_rfl
theorem impl_Heap_down.bits5 : waitsOk impl_Heap_down.T5.2 impl_Heap_down.B5 = true := by kernel_rfl
set_option maxHeartbeats 8000000 in
set_option maxRecDepth 100000 in
theorem impl_Heap_down.calls (k : Nat) (P0_0_ : Nat → Prop) (u9000_ : Value) (l0_0 : List (S32)) (a1 : Int) (r : List (S32)) (w0 w : World) (hB : Below w0.heap.size w0 w) (ho0_0 : Kd.R k32 32 w w0.heap.size P0_0_ u9000_ l0_0) (h : impl_Heap_down.f k l0_0 a1 = some r) :
  Calls Try.prog 31 #[.agg #[u9000_],I L a1] w fun e w'=>e=.returned (.tuple #[])∧Kd.R k32 32 w' w0.heap.size (fun k_=>(P0_0_ k_ ∨ w.heap.size≤k_)) u9000_ r∧Below w0.heap.size w0 w'∧Kept w w' (fun k_=>P0_0_ k_):=by
 have hu26 := Try.underlying26
 have hu32 := Try.underlying32
 have Mb := D (show Kd.R k32 32 w w0.heap.size (fun k_ => (P0_0_ k_ ∨ w.heap.size ≤ k_)) u9000_ l0_0 from Kd.R_mono ho0_0 (fun k_ hk => (.inl hk)))
 have HK := D (Kept.refl w (fun k_ => P0_0_ k_))
 have HW0 := D hB.size
 have HB := D hB
 clear hB
 have H : (impl_Heap_down.l0 k a1 l0_0) = some r := h
 clear h
 have H' := D H
 clear H
 obtain ⟨Jb, Ua, eo3⟩ := Kd.R_slice Mb.out
 subst eo3
 go_enter Try.func31, Try.ntmps31
 go_wp2_with (first|((with_reducible refine gate_dst (N:=2) rfl ?_);refine bx_ (N:=2) (cs:=#[Y Jb l0_0.length Ua]) (t:=26) ?_;intro Oa hg w4 hbox hb;have n_:=an_ (Kd.R_below (pR_ Mb.out) hb)<|an_ (Kept.below (S:=(fun k_=>P0_0_ k_)) Z11 hb)<|an_ (below_step (pB_ HB.out) hb)<|an_ (hbox)<|an_ ((by rw [hg];exact Z2:w.heap.size≤Oa))<|D (by rw [hg];exact (below_size (pB_ HB.out)):w0.heap.size≤Oa);clear Mb HK HB;obtain ⟨Mb,HK,HB,Ma,Xa,Jc⟩:=n_;clear hb hbox hg))
 (try simp only [Act.put, List.setIfInBounds_toArray, List.set_cons_zero, List.set_cons_succ])
 go_loopg [1] k (fun kq v1 w'=>∃ (x1_1:Int) (Ja:List (S32)),v1=I L x1_1∧Aside0 (impl_Heap_down.l0 kq x1_1 Ja=some r)∧Aside0 (kq≤k)∧Aside0 (Kd.R k32 32 w' w0.heap.size (fun k_=>(P0_0_ k_ ∨ w.heap.size≤k_)) (Y Jb l0_0.length Ua) Ja)∧Aside0 (w'.heap[Oa]?=some (.cells #[(Y Jb l0_0.length Ua)] 26 (0,0)))∧Aside0 (Kept w w' (fun k_=>P0_0_ k_))∧Aside0 (Below w0.heap.size w0 w'))
 case atStart=>exact ⟨(a1),(l0_0),Z23,H',⟨Nat.le_refl _⟩,⟨pR_ Mb.out⟩,⟨pk_ Ma.out⟩,⟨by repeat (first|(with_reducible first|exact HK.out|apply Kept.alloc|apply Kept.drewN|apply Kept.drew|refine Kept.setCell ?_ (.inr Xa.out) _)|exact HK.out)⟩,⟨pB_ HB.out⟩⟩
 case round =>
  clear H'
  (try clear p2);(try clear c3)
  obtain ⟨x1_1, Ja, rfl, HA, HK1, Ka, Ma, HK, HB⟩ := hrel; have hl365000_1 := (Kd.R_reads' Ka.out).1; rw [hl365000_1] at Ka; (try simp only [hl365000_1]); (try simp only [hl365000_1] at Ma)
  cases gk with
  | zero => exact absurd HA.out (by simp [impl_Heap_down.l0])
  | succ k1 =>
   have H := HA.out; clear HA; simp only [impl_Heap_down.l0] at H; have HC5 := D H; clear H
   go_upto_region 2 with (fail)
   go_cut [27] (fun v27 wc=>∃ (kq:Nat) (Ob:Bool),v27=.bool Ob∧Aside0 (impl_Heap_down.j1 kq x1_1 (wrap64 ((wrap64 (2 * x1_1)) + 1)) Ob Ja=some r)∧Aside0 (kq≤k1)∧Aside0 (Kd.R k32 32 wc w0.heap.size (fun k_=>(P0_0_ k_ ∨ w.heap.size≤k_)) (Y Jb Ja.length Ua) Ja)∧Aside0 (wc.heap[Oa]?=some (.cells #[(Y Jb Ja.length Ua)] 26 (0,0)))∧Aside0 (Kept w wc (fun k_=>P0_0_ k_))∧Aside0 (Below w0.heap.size w0 wc))
   case first =>
    have H := HC5.out; clear HC5
    by_cases c6 : (wrap64 ((wrap64 ((wrap64 (2 * x1_1)) + 1)) + 1)) < (Ja.length : Int)
    ·rw [if_pos c6] at H
     have c6b0:decide ((wrap64 ((wrap64 ((wrap64 (2 * x1_1)) + 1)) + 1)) < (Ja.length:Int))=true:=decide_eq_true c6;clear c6;(try (have c6h:=c6b0;simp only [hl365000_1] at c6h));refine rw_ c6b0 ?_;obtain ⟨ji7,hji7⟩:∃ j_:Int,(wrap64 ((wrap64 ((wrap64 (2 * x1_1)) + 1)) + 1))=j_:=⟨_,rfl⟩
     replace H:(if 0≤(ji7) then (if 0≤(wrap64 ((wrap64 (2 * x1_1)) + 1)) then (if (wrap64 ((wrap64 (2 * x1_1)) + 1)) < (Ja.length:Int) then ((impl_Ahead.f ((rd_T32 Ja (ji7)).f0) ((rd_T32 Ja (ji7)).f1) ((rd_T32 Ja (wrap64 ((wrap64 (2 * x1_1)) + 1))).f0) ((rd_T32 Ja (wrap64 ((wrap64 (2 * x1_1)) + 1))).f1)).bind fun Kb=>(impl_Heap_down.j1 k1 x1_1 (wrap64 ((wrap64 (2 * x1_1)) + 1)) Kb Ja)) else (none)) else (none)) else (none))=some r:=by first|(rw [hji7] at H;exact H)|(simp only [hji7] at H ⊢;exact H)
     (try rw [hji7] at c6b0); have hji7w : (IntKind.i64.wrap ((wrap64 ((wrap64 (2 * x1_1)) + 1)) + 1)) = ji7 := (i64_w _).trans hji7
     by_cases c8 : 0 ≤ (ji7)
     ·rw [if_pos c8] at H
      have c8b0 : decide (0 ≤ (ji7)) = true := decide_eq_true c8; clear c8; obtain ⟨ji9, hji9⟩ : ∃ j_ : Int, (wrap64 ((wrap64 (2 * x1_1)) + 1)) = j_ := ⟨_, rfl⟩
      replace H:(if 0≤(ji9) then (if (ji9) < (Ja.length:Int) then ((impl_Ahead.f ((rd_T32 Ja (ji7)).f0) ((rd_T32 Ja (ji7)).f1) ((rd_T32 Ja (ji9)).f0) ((rd_T32 Ja (ji9)).f1)).bind fun Kb=>(impl_Heap_down.j1 k1 x1_1 ji9 Kb Ja)) else (none)) else (none))=some r:=by first|(rw [hji9] at H;exact H)|(simp only [hji9] at H ⊢;exact H)
      (try rw [hji9] at c6b0); have hji9w : (IntKind.i64.wrap ((wrap64 (2 * x1_1)) + 1)) = ji9 := (i64_w _).trans hji9; (try rw [hji9] at hji7); (try rw [hji9] at hji7w)
      by_cases c10 : 0 ≤ (ji9)
      ·rw [if_pos c10] at H
       have c10b0 : decide (0 ≤ (ji9)) = true := decide_eq_true c10; clear c10
       by_cases c11 : (ji9) < (Ja.length : Int)
       ·rw [if_pos c11] at H
        have c11b0:decide ((ji9) < (Ja.length:Int))=true:=decide_eq_true c11;clear c11;(try (have c11h:=c11b0;simp only [hl365000_1] at c11h));obtain ⟨Kb,A120,H⟩:=bs_.mp H;(try dsimp only at H);have A12:=D A120;clear A120;have H':=D H;clear H
        try go_wp2
        have n_ := an_ (Kd.R_drew Ka.out) <| an_ (blk_drew Ma.out) <| an_ (Kept.drew HK.out) <| D (below_drew1 HB.out)
        clear Ka Ma HK HB;obtain ⟨Ka,Ma,HK,HB⟩:=n_;have p365:0≤((ji7):Int):=od_ Z22;have q365:(ji7) < (Ja.length:Int):=od_ Z22;obtain ⟨ad365,e365,hx365_0,hx365_1⟩:=at_T32 (Kd.R_reads' Ka.out).2.2 (ji7) p365 q365;cases e365;replace p365:=eq_true p365;replace q365:=eq_true q365;have p366:0≤((ji9):Int):=od_ Z22;have q366:(ji9) < (Ja.length:Int):=od_ Z22;obtain ⟨ad366,e366,hx366_0,hx366_1⟩:=at_T32 (Kd.R_reads' Ka.out).2.2 (ji9) p366 q366;obtain rfl:ad365=ad366:=(by injection e366);replace p366:=eq_true p366;replace q366:=eq_true q366;refine start_ (n:=20) (S:=fun w'=>w'.cell? ⟨Oa,0,none⟩=some (Y (some ad365) Ja.length Ua)∧w'.cell? (ad365.add (((ji7)).toNat * 2))=some (I L ((rd_T32 Ja (ji7)).f0))∧w'.cell? ⟨(ad365.add (((ji7)).toNat * 2)).block,(ad365.add (((ji7)).toNat * 2)).off + 1,none⟩=some (I L ((rd_T32 Ja (ji7)).f1))∧w'.cell? (ad365.add (((ji9)).toNat * 2))=some (I L ((rd_T32 Ja (ji9)).f0))∧w'.cell? ⟨(ad365.add (((ji9)).toNat * 2)).block,(ad365.add (((ji9)).toNat * 2)).off + 1,none⟩=some (I L ((rd_T32 Ja (ji9)).f1))) (ds:=[]) (bz 20 0) (by kernel_rfl) rfl (by kernel_rfl) ⟨bc_ Ma.out 0,hx365_0,hx365_1,hx366_0,hx366_1⟩ (fun hHeld=>?_);refine with_tabW impl_Heap_down.tab2 impl_Heap_down.bits2 (fun HT_ HW_=>?_);generalize wr.drew=w13 at Ka Ma HK HB hx365_0 hx365_1 hx366_0 hx366_1 hHeld ⊢;refine pb_ 0 ?_;refine pb_ 1 ?_;refine pb_ 2 ?_;refine tb_ 3 rfl rfl hHeld Z20 ?_;refine pb_ 4 ?_;refine pb_ 5 ?_;refine pb_ 6 ?_;refine pb_ 7 ?_;refine pb_ 9 ?_;refine pb_ 10 ?_;refine pb_ 13 ?_;refine pb_ 15 ?_;refine tb_ 8 rfl rfl hHeld Z20 ?_;refine pb_ 11 ?_;refine tb_ 12 rfl rfl hHeld Z20 ?_;refine tb_ 14 rfl rfl hHeld Z20 ?_;refine pb_ 16 ?_;refine tb_ 17 rfl rfl hHeld Z20 ?_;refine oa_ 18 26 20 524287 HT_ (fun K hK=>?_);refine goes_ Try.func20 (by kernel_rfl) rfl #[.agg #[I L ((rd_T32 Ja (ji7)).f0),I L ((rd_T32 Ja (ji7)).f1)],.agg #[I L ((rd_T32 Ja (ji9)).f0),I L ((rd_T32 Ja (ji9)).f1)]] (by rfl) rfl rfl (by (try simp only [List.map_toArray,List.map_cons,List.map_nil]);first|done|(simp only [hji7,hji9];rfl)|rfl|(simp only [List.length_drop,List.length_take];rfl)) ?_;with_reducible refine (impl_Ahead.calls ((rd_T32 Ja (ji7)).f0) ((rd_T32 Ja (ji7)).f1) ((rd_T32 Ja (ji9)).f0) ((rd_T32 Ja (ji9)).f1) Kb _ A12.out).mono ?_
        rintro e w14 ⟨rfl,hb⟩;have HS1_:=(hb.cell (World.block_lt_of_cell? _ _ (hHeld.2.1))).trans (hHeld.2.1);have HS2_:=(hb.cell (World.block_lt_of_cell? _ _ (hHeld.2.2.1))).trans (hHeld.2.2.1);have HS3_:=(hb.cell (World.block_lt_of_cell? _ _ (hHeld.2.2.2.1))).trans (hHeld.2.2.2.1);have HS4_:=(hb.cell (World.block_lt_of_cell? _ _ (hHeld.2.2.2.2))).trans (hHeld.2.2.2.2);refine ⟨_,rfl,?_⟩
        have n_ := an_ (Kd.R_below (pR_ Ka.out) hb) <| an_ (blk_below (pk_ Ma.out) hb) <| an_ (Kept.below (S := (fun k_ => P0_0_ k_)) Z7 hb) <| D (below_step (pB_ HB.out) hb)
        clear Ka Ma HK HB;obtain ⟨Ka,Ma,HK,HB⟩:=n_;refine hK.out _ _ ⟨bc_ Ma.out 0,HS1_,HS2_,HS3_,HS4_⟩ (fun hHeld=>?_);clear hK K;refine nx_ (N:=some 26) ?_;refine pb_ 19 ?_;refine done_ (done_of HT_.out (by kernel_rfl)) ?_
        try go_wp2
        (try subst hji9); (try subst hji7)
        go_meet
        case rel=>exact ⟨_,(Kb),Z23,H',⟨by have:=HK1.out;first|omega|exact Nat.le_refl _⟩,⟨by (try simp only [hl365000_1]);(with_reducible repeat (first|apply Kd.R_alloc|apply Kd.R_drewN|apply Kd.R_drew));exact Ka.out⟩,⟨by (try simp only [hl365000_1]);refine pk_ ?_;exact Ma.out⟩,⟨by repeat (first|(with_reducible first|exact HK.out|apply Kept.alloc|apply Kept.drewN|apply Kept.drew|refine Kept.setCell ?_ (.inr Xa.out) _)|exact HK.out)⟩,⟨pB_ HB.out⟩⟩
       ·rw [if_neg c11] at H
        exact absurd H (by simp)
      ·rw [if_neg c10] at H
       exact absurd H (by simp)
     ·rw [if_neg c8] at H
      exact absurd H (by simp)
    ·rw [if_neg c6] at H
     have c6b0:decide ((wrap64 ((wrap64 ((wrap64 (2 * x1_1)) + 1)) + 1)) < (Ja.length:Int))=false:=decide_eq_false c6;clear c6;(try (have c6h:=c6b0;simp only [hl365000_1] at c6h));refine rw_ c6b0 ?_;have H':=D H;clear H
     try go_wp2
     have n_ := an_ (Kd.R_drew Ka.out) <| an_ (blk_drew Ma.out) <| an_ (Kept.drew HK.out) <| D (below_drew1 HB.out)
     clear Ka Ma HK HB;obtain ⟨Ka,Ma,HK,HB⟩:=n_;refine start_ (n:=20) (S:=fun w'=>w'.cell? ⟨Oa,0,none⟩=some (Y Jb Ja.length Ua)) (ds:=[]) (bz 20 0) (by kernel_rfl) rfl (by kernel_rfl) (bc_ Ma.out 0) (fun hHeld=>?_);refine with_tabW impl_Heap_down.tab2 impl_Heap_down.bits2 (fun HT_ HW_=>?_);generalize wr.drew=w15 at Ka Ma HK HB hHeld ⊢;refine pb_ 0 ?_;refine pb_ 1 ?_;refine pb_ 2 ?_;refine tb_ 3 rfl rfl hHeld Z25 ?_;refine pb_ 4 ?_;refine pb_ 5 ?_;refine pb_ 6 ?_;refine ob_ 7 ?_;refine ob_ 8 ?_;refine ob_ 9 ?_;refine ob_ 10 ?_;refine ob_ 11 ?_;refine ob_ 12 ?_;refine ob_ 13 ?_;refine ob_ 14 ?_;refine ob_ 15 ?_;refine ob_ 16 ?_;refine ob_ 17 ?_;refine ob_ 18 ?_;refine pb_ 19 ?_;refine done_ (done_of HT_.out (by kernel_rfl)) ?_
     try go_wp2
     (try subst hji7)
     go_meet
     case rel=>exact ⟨_,(false),Z23,H',⟨by have:=HK1.out;first|omega|exact Nat.le_refl _⟩,⟨by (try simp only [hl365000_1]);(with_reducible repeat (first|apply Kd.R_alloc|apply Kd.R_drewN|apply Kd.R_drew));exact Ka.out⟩,⟨by (try simp only [hl365000_1]);refine pk_ ?_;exact Ma.out⟩,⟨by repeat (first|(with_reducible first|exact HK.out|apply Kept.alloc|apply Kept.drewN|apply Kept.drew|refine Kept.setCell ?_ (.inr Xa.out) _)|exact HK.out)⟩,⟨pB_ HB.out⟩⟩
   case rest =>
    clear HC5
    (try clear c1);(try clear c2);(try clear p2);(try clear c3);(try clear p3);(try clear q3);(try clear hx3);(try clear c6);(try clear c6b0);(try clear p6);(try clear c8);(try clear c8b0);(try clear c10);(try clear c10b0);(try clear c11);(try clear c11b0);(try clear hx365_0 hx365_1);(try clear hx366_0 hx366_1);(try clear p2);(try clear p365);(try clear p366);(try clear q365);(try clear q366)
    obtain ⟨kq, Ob, rfl, HA, HJ4, Ka, Ma, HK, HB⟩ := hcut
    cases kq with
    | zero => exact absurd HA.out (by simp [impl_Heap_down.j1])
    | succ kj4 =>
     have H := HA.out; clear HA; simp only [impl_Heap_down.j1] at H
     by_cases c16 : Ob = true
     ·subst c16
      rw [if_pos rfl] at H
      by_cases c17 : (wrap64 ((wrap64 ((wrap64 (2 * x1_1)) + 1)) + 1)) ≥ (Ja.length : Int)
      ·rw [if_pos c17] at H
       have c17b0:decide ((Ja.length:Int)≤(wrap64 ((wrap64 ((wrap64 (2 * x1_1)) + 1)) + 1)))=true:=decide_eq_true c17;clear c17;(try (have c17h:=c17b0;simp only [hl365000_1] at c17h));obtain rfl:=Option.some.inj H
       try go_wp2
       have n_ := an_ (Kd.R_drew Ka.out) <| an_ (blk_drew Ma.out) <| an_ (Kept.drew HK.out) <| D (below_drew1 HB.out)
       clear Ka Ma HK HB;obtain ⟨Ka,Ma,HK,HB⟩:=n_;refine start_ (n:=19) (S:=fun w'=>w'.cell? ⟨Oa,0,none⟩=some (Y Jb Ja.length Ua)) (ds:=[]) (bz 19 0) (by kernel_rfl) rfl (by kernel_rfl) (bc_ Ma.out 0) (fun hHeld=>?_);refine with_tabW impl_Heap_down.tab4 impl_Heap_down.bits4 (fun HT_ HW_=>?_);generalize wc.drew=w18 at Ka Ma HK HB hHeld ⊢;refine pb_ 0 ?_;refine pb_ 1 ?_;refine tb_ 2 rfl rfl hHeld Z25 ?_;refine pb_ 3 ?_;refine pb_ 4 ?_;refine pb_ 5 ?_;refine ob_ 6 ?_;refine ob_ 7 ?_;refine ob_ 8 ?_;refine ob_ 9 ?_;refine ob_ 10 ?_;refine ob_ 11 ?_;refine ob_ 12 ?_;refine ob_ 13 ?_;refine ob_ 14 ?_;refine ob_ 15 ?_;refine ob_ 16 ?_;refine ob_ 17 ?_;refine pb_ 18 ?_;refine done_ (done_of HT_.out (by kernel_rfl)) ?_
       try go_wp2
       first | go_end0 | ((try simp only [Exit.inBlock, Exit.then]); refine bodyPost_ret (results_none rfl _ _ _) rfl ?_)
       exact ⟨er_,Z18,pB_ HB.out,by repeat (first|(with_reducible first|exact HK.out|apply Kept.alloc|apply Kept.drewN|apply Kept.drew|refine Kept.setCell ?_ (.inr Xa.out) _)|exact HK.out)⟩
      ·rw [if_neg c17] at H
       have c17b0:decide ((Ja.length:Int)≤(wrap64 ((wrap64 ((wrap64 (2 * x1_1)) + 1)) + 1)))=false:=decide_eq_false c17;clear c17;(try (have c17h:=c17b0;simp only [hl365000_1] at c17h));obtain ⟨ji19,hji19⟩:∃ j_:Int,(wrap64 ((wrap64 ((wrap64 (2 * x1_1)) + 1)) + 1))=j_:=⟨_,rfl⟩
       replace H:(if 0≤(ji19) then (if (ji19) < (Ja.length:Int) then (if 0≤x1_1 then (if x1_1 < (Ja.length:Int) then ((impl_Ahead.f ((rd_T32 Ja (ji19)).f0) ((rd_T32 Ja (ji19)).f1) ((rd_T32 Ja x1_1).f0) ((rd_T32 Ja x1_1).f1)).bind fun Ub=>(if Ub=true then (impl_Heap_down.l0 kj4 ji19 ((Ja.set (x1_1:Int).toNat (⟨(rd_T32 Ja (ji19)).f0,(rd_T32 Ja (ji19)).f1⟩:S32)).set ((ji19):Int).toNat (⟨(rd_T32 Ja x1_1).f0,(rd_T32 Ja x1_1).f1⟩:S32))) else (some Ja))) else (none)) else (none)) else (none)) else (none))=some r:=by first|(rw [hji19] at H;exact H)|(simp only [hji19] at H ⊢;exact H)
       (try rw [hji19] at c17b0); have hji19w : (IntKind.i64.wrap ((wrap64 ((wrap64 (2 * x1_1)) + 1)) + 1)) = ji19 := (i64_w _).trans hji19
       by_cases c20 : 0 ≤ (ji19)
       ·rw [if_pos c20] at H
        have c20b0 : decide (0 ≤ (ji19)) = true := decide_eq_true c20; clear c20
        by_cases c21 : (ji19) < (Ja.length : Int)
        ·rw [if_pos c21] at H
         have c21b0 : decide ((ji19) < (Ja.length : Int)) = true := decide_eq_true c21; clear c21; (try (have c21h := c21b0; simp only [hl365000_1] at c21h))
         by_cases c22 : 0 ≤ x1_1
         ·rw [if_pos c22] at H
          have c22b0 : decide (0 ≤ x1_1) = true := decide_eq_true c22; clear c22
          by_cases c23 : x1_1 < (Ja.length : Int)
          ·rw [if_pos c23] at H
           have c23b0:decide (x1_1 < (Ja.length:Int))=true:=decide_eq_true c23;clear c23;(try (have c23h:=c23b0;simp only [hl365000_1] at c23h));obtain ⟨Ub,A240,H⟩:=bs_.mp H;(try dsimp only at H);have A24:=D A240;clear A240;have HU25:=D H;clear H
           try go_wp2
           have n_ := an_ (Kd.R_drew Ka.out) <| an_ (blk_drew Ma.out) <| an_ (Kept.drew HK.out) <| D (below_drew1 HB.out)
           clear Ka Ma HK HB;obtain ⟨Ka,Ma,HK,HB⟩:=n_;have p368:0≤((ji19):Int):=od_ Z22;have q368:(ji19) < (Ja.length:Int):=od_ Z22;obtain ⟨ad368,e368,hx368_0,hx368_1⟩:=at_T32 (Kd.R_reads' Ka.out).2.2 (ji19) p368 q368;cases e368;replace p368:=eq_true p368;replace q368:=eq_true q368;have p369:0≤(x1_1:Int):=od_ Z22;have q369:x1_1 < (Ja.length:Int):=od_ Z22;obtain ⟨ad369,e369,hx369_0,hx369_1⟩:=at_T32 (Kd.R_reads' Ka.out).2.2 x1_1 p369 q369;obtain rfl:ad368=ad369:=(by injection e369);replace p369:=eq_true p369;replace q369:=eq_true q369;refine start_ (n:=19) (S:=fun w'=>w'.cell? ⟨Oa,0,none⟩=some (Y (some ad368) Ja.length Ua)∧w'.cell? (ad368.add (((ji19)).toNat * 2))=some (I L ((rd_T32 Ja (ji19)).f0))∧w'.cell? ⟨(ad368.add (((ji19)).toNat * 2)).block,(ad368.add (((ji19)).toNat * 2)).off + 1,none⟩=some (I L ((rd_T32 Ja (ji19)).f1))∧w'.cell? (ad368.add ((x1_1).toNat * 2))=some (I L ((rd_T32 Ja x1_1).f0))∧w'.cell? ⟨(ad368.add ((x1_1).toNat * 2)).block,(ad368.add ((x1_1).toNat * 2)).off + 1,none⟩=some (I L ((rd_T32 Ja x1_1).f1))) (ds:=[]) (bz 19 0) (by kernel_rfl) rfl (by kernel_rfl) ⟨bc_ Ma.out 0,hx368_0,hx368_1,hx369_0,hx369_1⟩ (fun hHeld=>?_);refine with_tabW impl_Heap_down.tab4 impl_Heap_down.bits4 (fun HT_ HW_=>?_);generalize wc.drew=w26 at Ka Ma HK HB hx368_0 hx368_1 hx369_0 hx369_1 hHeld ⊢;refine pb_ 0 ?_;refine pb_ 1 ?_;refine tb_ 2 rfl rfl hHeld Z20 ?_;refine pb_ 3 ?_;refine pb_ 4 ?_;refine pb_ 5 ?_;refine pb_ 6 ?_;refine pb_ 8 ?_;refine pb_ 11 ?_;refine pb_ 13 ?_;refine tb_ 7 rfl rfl hHeld Z20 ?_;refine pb_ 9 ?_;refine tb_ 10 rfl rfl hHeld Z20 ?_;refine tb_ 12 rfl rfl hHeld Z20 ?_;refine pb_ 14 ?_;refine tb_ 15 rfl rfl hHeld Z20 ?_;refine oa_ 16 46 19 131071 HT_ (fun K hK=>?_);refine goes_ Try.func20 (by kernel_rfl) rfl #[.agg #[I L ((rd_T32 Ja (ji19)).f0),I L ((rd_T32 Ja (ji19)).f1)],.agg #[I L ((rd_T32 Ja x1_1).f0),I L ((rd_T32 Ja x1_1).f1)]] (by rfl) rfl rfl (by (try simp only [List.map_toArray,List.map_cons,List.map_nil]);first|done|(simp only [hji19];rfl)|rfl|(simp only [List.length_drop,List.length_take];rfl)) ?_;with_reducible refine (impl_Ahead.calls ((rd_T32 Ja (ji19)).f0) ((rd_T32 Ja (ji19)).f1) ((rd_T32 Ja x1_1).f0) ((rd_T32 Ja x1_1).f1) Ub _ A24.out).mono ?_
           rintro e w27 ⟨rfl,hb⟩;have HS1_:=(hb.cell (World.block_lt_of_cell? _ _ (hHeld.2.1))).trans (hHeld.2.1);have HS2_:=(hb.cell (World.block_lt_of_cell? _ _ (hHeld.2.2.1))).trans (hHeld.2.2.1);have HS3_:=(hb.cell (World.block_lt_of_cell? _ _ (hHeld.2.2.2.1))).trans (hHeld.2.2.2.1);have HS4_:=(hb.cell (World.block_lt_of_cell? _ _ (hHeld.2.2.2.2))).trans (hHeld.2.2.2.2);refine ⟨_,rfl,?_⟩
           have n_ := an_ (Kd.R_below (pR_ Ka.out) hb) <| an_ (blk_below (pk_ Ma.out) hb) <| an_ (Kept.below (S := (fun k_ => P0_0_ k_)) Z7 hb) <| D (below_step (pB_ HB.out) hb)
           clear Ka Ma HK HB;obtain ⟨Ka,Ma,HK,HB⟩:=n_;refine hK.out _ _ ⟨bc_ Ma.out 0,HS1_,HS2_,HS3_,HS4_⟩ (fun hHeld=>?_);clear hK K;refine nx_ (N:=some 46) ?_;refine pb_ 17 ?_;refine pb_ 18 ?_;refine done_ (done_of HT_.out (by kernel_rfl)) ?_
           go_upto_if 48 with (fail)
           have H := HU25.out; clear HU25
           by_cases c28 : Ub = true
           ·subst c28
            rw [if_pos rfl] at H; obtain ⟨y373, hy373⟩ : ∃ y_ : List (S32), y_ = (Ja.set (x1_1 : Int).toNat (⟨(rd_T32 Ja (ji19)).f0, (rd_T32 Ja (ji19)).f1⟩ : S32)) := ⟨_, rfl⟩
            replace H:(impl_Heap_down.l0 kj4 ji19 (y373.set ((ji19):Int).toNat (⟨(rd_T32 Ja x1_1).f0,(rd_T32 Ja x1_1).f1⟩:S32)))=some r:=by first|(rw [hy373];with_reducible exact H)|(have H2_:=(Option.bind_some _ _).symm.trans H;rw [hy373];with_reducible exact H2_)|(have H2_:=(Option.bind_some _ _).symm.trans H;with_reducible exact H2_)|with_reducible exact H|(rw [hy373];exact H)|exact H
            have Ny373 := D hy373; clear hy373; obtain ⟨y374, hy374⟩ : ∃ y_ : List (S32), y_ = (y373.set ((ji19) : Int).toNat (⟨(rd_T32 Ja x1_1).f0, (rd_T32 Ja x1_1).f1⟩ : S32)) := ⟨_, rfl⟩
            replace H:(impl_Heap_down.l0 kj4 ji19 y374)=some r:=by first|(rw [hy374];with_reducible exact H)|(have H2_:=(Option.bind_some _ _).symm.trans H;rw [hy374];with_reducible exact H2_)|(have H2_:=(Option.bind_some _ _).symm.trans H;with_reducible exact H2_)|with_reducible exact H|(rw [hy374];exact H)|exact H
            have Ny374 := D hy374; clear hy374; have H' := D H; clear H
            try go_wp2
            have n_ := an_ (Kd.R_drew Ka.out) <| an_ (blk_drew Ma.out) <| an_ (Kept.drew HK.out) <| D (below_drew1 HB.out)
            clear Ka Ma HK HB;obtain ⟨Ka,Ma,HK,HB⟩:=n_;have p371:0≤((ji19):Int):=od_ Z22;have q371:(ji19) < (Ja.length:Int):=od_ Z22;obtain ⟨ad371,e371,hx371_0,hx371_1⟩:=at_T32 (Kd.R_reads' Ka.out).2.2 (ji19) p371 q371;obtain rfl:ad368=ad371:=(by injection e371);replace p371:=eq_true p371;replace q371:=eq_true q371;have p372:0≤(x1_1:Int):=od_ Z22;have q372:x1_1 < (Ja.length:Int):=od_ Z22;obtain ⟨ad372,e372,hx372_0,hx372_1⟩:=at_T32 (Kd.R_reads' Ka.out).2.2 x1_1 p372 q372;obtain rfl:ad368=ad372:=(by injection e372);replace p372:=eq_true p372;replace q372:=eq_true q372;have p29:0≤(x1_1:Int):=od_ Z22;have q29:(x1_1:Int) < ((Ja.length:Int):Int):=od_ Z22;obtain ⟨go29,Oc,eo29,Kc,gl29,cl29,HG29⟩:=Kd.R_form Ka.out (by omega);(first|cases eo29|(injection eo29 with ea_ en_ ec_;(first|subst ea_|(injection ea_ with ea_;subst ea_));subst ec_;clear en_));have GB29:=D Kc;have GG29:=D HG29;clear Kc gl29 HG29;have HMgo29:=D (show (P0_0_ go29 ∨ w.heap.size≤go29) from (Ka.out.1 _ rfl));(first|simp only [add_plain] at hx368_0|skip);(first|simp only [add_plain] at hx368_1|skip);(first|simp only [add_plain] at hx369_0|skip);(first|simp only [add_plain] at hx369_1|skip);(first|simp only [add_plain] at hx371_0|skip);(first|simp only [add_plain] at hx371_1|skip);(first|simp only [add_plain] at hx372_0|skip);(first|simp only [add_plain] at hx372_1|skip);obtain ⟨ce29,hcl29,hM29,hcc29,hfr29⟩:=Kd.R_elem Ka.out z32 (x1_1:Int) p29 q29;obtain rfl:=k32_openM hM29;have hx29_0:World.cell? _ ⟨go29,(x1_1:Int).toNat * 2,none⟩=some (I L ((rd_T32 Ja x1_1).f0)):=hcc29 0 _ rfl;have hx29_1:World.cell? _ ⟨go29,(x1_1:Int).toNat * 2 + 1,none⟩=some (I L ((rd_T32 Ja x1_1).f1)):=hcc29 1 _ rfl;have hf29_0:World.frozen? _ ⟨go29,(x1_1:Int).toNat * 2,none⟩=false:=hfr29 0;have hf29_1:World.frozen? _ ⟨go29,(x1_1:Int).toNat * 2 + 1,none⟩=false:=hfr29 1;clear hcl29 hcc29 hfr29 hM29;replace p29:=eq_true p29;replace q29:=eq_true q29;obtain ⟨ce32,hcl32,hM32,hcc32,hfr32⟩:=Kd.R_elem Ka.out z32 (x1_1:Int) (od_ Z22) (by have h_:(x1_1:Int) < ((Ja.length:Int):Int):=od_ Z22;first|exact h_|(have e_:=(Kd.R_reads' Ka.out).1;omega)|simpa using h_);obtain rfl:=k32_openM hM32;have HP32:=(Kd.R_seg Ka.out (x1_1:Int) (od_ Z22) (by have h_:(x1_1:Int) < ((Ja.length:Int):Int):=od_ Z22;first|exact h_|(have e_:=(Kd.R_reads' Ka.out).1;omega)|simpa using h_) (seg:=[I L ((rd_T32 Ja (ji19)).f0),I L ((rd_T32 Ja (ji19)).f1)]) (j:=0) hcl32 hcc32 (show 2≤2 from by decide) (x':=(⟨(rd_T32 Ja (ji19)).f0,(rd_T32 Ja (ji19)).f1⟩:S32)) (k32_mkM _ _ _ (⟨(rd_T32 Ja (ji19)).f0,(rd_T32 Ja (ji19)).f1⟩:S32) ) (fun _ hk=>hk)).1;rw [← Ny373.out] at HP32;have HQ32:=D HP32;clear hcl32 hcc32 hfr32 hM32 HP32;have p30:0≤((ji19):Int):=od_ Z22;have q30:((ji19):Int) < ((Ja.length:Int):Int):=od_ Z22;obtain ⟨ce30,hcl30,hM30,hcc30,hfr30⟩:=Kd.R_elem HQ32.out z32 ((ji19):Int) p30 q30;obtain rfl:=k32_openM hM30;have hx30_0:World.cell? _ ⟨go29,((ji19):Int).toNat * 2,none⟩=some (I L ((rd_T32 y373 (ji19)).f0)):=hcc30 0 _ rfl;have hx30_1:World.cell? _ ⟨go29,((ji19):Int).toNat * 2 + 1,none⟩=some (I L ((rd_T32 y373 (ji19)).f1)):=hcc30 1 _ rfl;have hf30_0:World.frozen? _ ⟨go29,((ji19):Int).toNat * 2,none⟩=false:=hfr30 0;have hf30_1:World.frozen? _ ⟨go29,((ji19):Int).toNat * 2 + 1,none⟩=false:=hfr30 1;clear hcl30 hcc30 hfr30 hM30;replace p30:=eq_true p30;replace q30:=eq_true q30;obtain ⟨ce33,hcl33,hM33,hcc33,hfr33⟩:=Kd.R_elem HQ32.out z32 ((ji19):Int) (od_ Z22) (by have h_:((ji19):Int) < ((Ja.length:Int):Int):=od_ Z22;first|exact h_|(have e_:=(Kd.R_reads' Ka.out).1;omega)|simpa using h_)
            obtain rfl:=k32_openM hM33;have HP33:=(Kd.R_seg HQ32.out ((ji19):Int) (od_ Z22) (by have h_:((ji19):Int) < ((Ja.length:Int):Int):=od_ Z22;first|exact h_|(have e_:=(Kd.R_reads' Ka.out).1;omega)|simpa using h_) (seg:=[I L ((rd_T32 Ja x1_1).f0),I L ((rd_T32 Ja x1_1).f1)]) (j:=0) hcl33 hcc33 (show 2≤2 from by decide) (x':=(⟨(rd_T32 Ja x1_1).f0,(rd_T32 Ja x1_1).f1⟩:S32)) (k32_mkM _ _ _ (⟨(rd_T32 Ja x1_1).f0,(rd_T32 Ja x1_1).f1⟩:S32) ) (fun _ hk=>hk)).1;rw [← Ny374.out] at HP33;have HQ33:=D HP33;clear hcl33 hcc33 hfr33 hM33 HP33;refine start_ (n:=20) (S:=fun w'=>w'.cell? ⟨Oa,0,none⟩=some (Y (some ⟨go29,0,none⟩) Ja.length Ua)) (ds:=[]) (bz 20 0) (by kernel_rfl) rfl (by kernel_rfl) (bc_ Ma.out 0) (fun hHeld=>?_);refine with_tabW impl_Heap_down.tab5 impl_Heap_down.bits5 (fun HT_ HW_=>?_);generalize w27.drew=w31 at Ka Ma HK HB GG29 HQ32 HQ33 hf29_0 hf29_1 hf30_0 hf30_1 hx29_0 hx29_1 hx30_0 hx30_1 hx368_0 hx368_1 hx369_0 hx369_1 hx371_0 hx371_1 hx372_0 hx372_1 hHeld ⊢;refine pb_ 0 ?_;refine pb_ 2 ?_;refine pb_ 3 ?_;refine pb_ 5 ?_;refine pb_ 6 ?_;refine pb_ 8 ?_;refine pb_ 11 ?_;refine pb_ 13 ?_;refine tb_ 1 rfl rfl hHeld Z25 ?_;refine tb_ 4 rfl rfl hHeld Z25 ?_;refine tb_ 7 rfl rfl hHeld Z25 ?_;refine pb_ 9 ?_;refine tb_ 12 rfl rfl hHeld Z25 ?_;refine pb_ 14 ?_;refine cut_ (a2:=?_) 4 (bz 20 65535) ?_ ?_;rotate_left
            ·intro hCont
             refine two_ (i:=10) (j:=15) (Ni:=some 59) (Nj:=some 64) (bz 20 32767) (bz 20 64511) rfl rfl rfl rfl (two_of HT_.out (by kernel_rfl)) (by decide) (by decide) (fun K hK=>?_) (fun K hK=>?_)
             ·skip
              refine value_ (w1 := ?_) (v := ?_) (by rfl) rfl ?_ ?_; rotate_left 2
              ·go_simp
               constructor
               ·rfl
               ·rfl
              refine hK.out _ _ (hHeld) (fun hHeld=>?_);clear hK K;refine nx_ (N:=some 59) ?_;refine oa_ 15 64 20 65535 HT_ (fun K hK=>?_);refine value_ (w1:=?_) (v:=?_) (by rfl) rfl ?_ ?_;rotate_left 2
              ·go_simp
               constructor
               ·rfl
               ·rfl
              refine hK.out _ _ (hHeld) (fun hHeld => ?_); clear hK K; refine nx_ (N := some 64) ?_; exact norm_ (by rfl) hCont
             ·skip
              refine value_ (w1 := ?_) (v := ?_) (by rfl) rfl ?_ ?_; rotate_left 2
              ·go_simp
               constructor
               ·rfl
               ·rfl
              refine hK.out _ _ (hHeld) (fun hHeld=>?_);clear hK K;refine nx_ (N:=some 64) ?_;refine oa_ 10 59 20 65535 HT_ (fun K hK=>?_);refine value_ (w1:=?_) (v:=?_) (by rfl) rfl ?_ ?_;rotate_left 2
              ·go_simp
               constructor
               ·rfl
               ·rfl
              refine hK.out _ _ (hHeld) (fun hHeld => ?_); clear hK K; refine nx_ (N := some 59) ?_; exact norm_ (by rfl) hCont
            refine pb_ 16 ?_;refine one_ (i:=17) (N:=none) (bz 20 262143) rfl rfl (one_of HT_.out (by kernel_rfl)) (by decide) (fun K hK=>?_);refine skip_ (w1:=?_) (by rfl) rfl ?_ ?_;rotate_left
            ·go_simp
             rfl
            refine hK.out _ _ (((cell_far (p:=⟨go29,_,none⟩) (show Oa≠go29 from Z31) _).trans (((cell_far (p:=⟨go29,_,none⟩) (show Oa≠go29 from Z31) _).trans (hHeld))))) (fun hHeld=>?_);clear hK K;refine pb_ 18 ?_;refine one_ (i:=19) (N:=none) (bz 20 1048575) rfl rfl (one_of HT_.out (by kernel_rfl)) (by decide) (fun K hK=>?_);have hz0_:=hx30_0
            change (World.setCell (World.setCell _ ⟨go29, (x1_1 : Int).toNat * 2, none⟩ _) ⟨go29, (x1_1 : Int).toNat * 2 + 1, none⟩ _).cell? ⟨go29, ((ji19) : Int).toNat * 2, none⟩ = _ at hz0_
            have hz1_ := hx30_1
            change (World.setCell (World.setCell _ ⟨go29, (x1_1 : Int).toNat * 2, none⟩ _) ⟨go29, (x1_1 : Int).toNat * 2 + 1, none⟩ _).cell? ⟨go29, ((ji19) : Int).toNat * 2 + 1, none⟩ = _ at hz1_
            have hy_:=(World.cell?_setCell_other _ _ _ _ Z24).symm.trans hz0_;have hw0_:=hf30_0;have hw1_:=hf30_1;rw [World.frozen?_setCells] at hw0_ hw1_;refine skip_ (w1:=?_) (by rfl) rfl ?_ ?_;rotate_left
            ·go_simp
             rfl
            refine hK.out _ _ (((cell_far (p:=⟨go29,_,none⟩) (show Oa≠go29 from Z31) _).trans (((cell_far (p:=⟨go29,_,none⟩) (show Oa≠go29 from Z31) _).trans (hHeld))))) (fun hHeld=>?_);clear hK K;refine done_ (done_of HT_.out (by kernel_rfl)) ?_
            try go_wp2
            (try simp only [← hl365000_1]); go_roundg kj4
            case measure => have := HK1.out; have := HJ4.out; omega
            case rel=>exact ⟨(ji19),(y374),(by first|rfl|(simp;done)|(simp only [← hji19] <;> (first|rfl|simp))|(simp [*];done)),H',⟨by have:=HK1.out;have:=HJ4.out;omega⟩,⟨by (try simp only [hl365000_1]);(with_reducible repeat (first|apply Kd.R_alloc|apply Kd.R_drewN|apply Kd.R_drew));exact HQ33.out⟩,⟨by (try simp only [hl365000_1]);refine pk_ ?_;refine blk_far ?_ Z31 _;refine pk_ ?_;refine blk_far ?_ Z31 _;refine pk_ ?_;refine blk_far ?_ Z31 _;refine pk_ ?_;refine blk_far ?_ Z31 _;refine pk_ ?_;exact Ma.out⟩,⟨by repeat (first|(with_reducible first|exact HK.out|apply Kept.alloc|apply Kept.drewN|apply Kept.drew|refine Kept.setCell ?_ HMgo29.out _|refine Kept.setCell ?_ HMgo29.out _|refine Kept.setCell ?_ HMgo29.out _|refine Kept.setCell ?_ HMgo29.out _|refine Kept.setCell ?_ (.inr Xa.out) _)|exact HK.out)⟩,⟨by repeat (first|(with_reducible first|exact HB.out|apply below_alloc|apply pw_below_drewN|apply below_drew1|refine below_set ?_ GB29.out|refine below_set ?_ GB29.out|refine below_set ?_ GB29.out|refine below_set ?_ GB29.out|refine below_set ?_ Jc.out)|exact HB.out)⟩⟩
           ·replace c28 := Bool.eq_false_iff.mpr c28
            subst c28; rw [if_neg (show ¬ (false = true) by decide)] at H; obtain rfl := Option.some.inj H
            go_wp2
            first | go_end0 | ((try simp only [Exit.inBlock, Exit.then]); refine bodyPost_ret (results_none rfl _ _ _) rfl ?_)
            exact ⟨by first|rfl|(simp [errW_none,errW_some] <;> rfl)|(simp only [← hji19];first|rfl|(simp [errW_none,errW_some] <;> rfl))|(simp [*,errW_none,errW_some] <;> rfl),Z18,pB_ HB.out,by repeat (first|(with_reducible first|exact HK.out|apply Kept.alloc|apply Kept.drewN|apply Kept.drew|refine Kept.setCell ?_ (.inr Xa.out) _)|exact HK.out)⟩
          ·rw [if_neg c23] at H
           exact absurd H (by simp)
         ·rw [if_neg c22] at H
          exact absurd H (by simp)
        ·rw [if_neg c21] at H
         exact absurd H (by simp)
       ·rw [if_neg c20] at H
        exact absurd H (by simp)
     ·replace c16 := Bool.eq_false_iff.mpr c16
      subst c16; rw [if_neg (show ¬ (false = true) by decide)] at H
      by_cases c34 : (wrap64 ((wrap64 (2 * x1_1)) + 1)) ≥ (Ja.length : Int)
      ·rw [if_pos c34] at H
       have c34b0:decide ((Ja.length:Int)≤(wrap64 ((wrap64 (2 * x1_1)) + 1)))=true:=decide_eq_true c34;clear c34;(try (have c34h:=c34b0;simp only [hl365000_1] at c34h));obtain rfl:=Option.some.inj H
       try go_wp2
       have n_ := an_ (Kd.R_drew Ka.out) <| an_ (blk_drew Ma.out) <| an_ (Kept.drew HK.out) <| D (below_drew1 HB.out)
       clear Ka Ma HK HB;obtain ⟨Ka,Ma,HK,HB⟩:=n_;refine start_ (n:=19) (S:=fun w'=>w'.cell? ⟨Oa,0,none⟩=some (Y Jb Ja.length Ua)) (ds:=[]) (bz 19 0) (by kernel_rfl) rfl (by kernel_rfl) (bc_ Ma.out 0) (fun hHeld=>?_);refine with_tabW impl_Heap_down.tab4 impl_Heap_down.bits4 (fun HT_ HW_=>?_);generalize wc.drew=w35 at Ka Ma HK HB hHeld ⊢;refine pb_ 0 ?_;refine pb_ 1 ?_;refine tb_ 2 rfl rfl hHeld Z25 ?_;refine pb_ 3 ?_;refine pb_ 4 ?_;refine pb_ 5 ?_;refine ob_ 6 ?_;refine ob_ 7 ?_;refine ob_ 8 ?_;refine ob_ 9 ?_;refine ob_ 10 ?_;refine ob_ 11 ?_;refine ob_ 12 ?_;refine ob_ 13 ?_;refine ob_ 14 ?_;refine ob_ 15 ?_;refine ob_ 16 ?_;refine ob_ 17 ?_;refine pb_ 18 ?_;refine done_ (done_of HT_.out (by kernel_rfl)) ?_
       try go_wp2
       first | go_end0 | ((try simp only [Exit.inBlock, Exit.then]); refine bodyPost_ret (results_none rfl _ _ _) rfl ?_)
       exact ⟨er_,Z18,pB_ HB.out,by repeat (first|(with_reducible first|exact HK.out|apply Kept.alloc|apply Kept.drewN|apply Kept.drew|refine Kept.setCell ?_ (.inr Xa.out) _)|exact HK.out)⟩
      ·rw [if_neg c34] at H
       have c34b0:decide ((Ja.length:Int)≤(wrap64 ((wrap64 (2 * x1_1)) + 1)))=false:=decide_eq_false c34;clear c34;(try (have c34h:=c34b0;simp only [hl365000_1] at c34h));obtain ⟨ji36,hji36⟩:∃ j_:Int,(wrap64 ((wrap64 (2 * x1_1)) + 1))=j_:=⟨_,rfl⟩
       replace H:(if 0≤(ji36) then (if (ji36) < (Ja.length:Int) then (if 0≤x1_1 then (if x1_1 < (Ja.length:Int) then ((impl_Ahead.f ((rd_T32 Ja (ji36)).f0) ((rd_T32 Ja (ji36)).f1) ((rd_T32 Ja x1_1).f0) ((rd_T32 Ja x1_1).f1)).bind fun Xb=>(if Xb=true then (impl_Heap_down.l0 kj4 (ji36) ((Ja.set (x1_1:Int).toNat (⟨(rd_T32 Ja (ji36)).f0,(rd_T32 Ja (ji36)).f1⟩:S32)).set ((ji36):Int).toNat (⟨(rd_T32 Ja x1_1).f0,(rd_T32 Ja x1_1).f1⟩:S32))) else (some Ja))) else (none)) else (none)) else (none)) else (none))=some r:=by first|(rw [hji36] at H;exact H)|(simp only [hji36] at H ⊢;exact H)
       (try rw [hji36] at c34b0); have hji36w : (IntKind.i64.wrap ((wrap64 (2 * x1_1)) + 1)) = ji36 := (i64_w _).trans hji36; (try rw [hji36] at hji7); (try rw [hji36] at hji7w); (try rw [hji36] at hji19); (try rw [hji36] at hji19w)
       by_cases c37 : 0 ≤ (ji36)
       ·rw [if_pos c37] at H
        have c37b0 : decide (0 ≤ (ji36)) = true := decide_eq_true c37; clear c37
        by_cases c38 : (ji36) < (Ja.length : Int)
        ·rw [if_pos c38] at H
         have c38b0 : decide ((ji36) < (Ja.length : Int)) = true := decide_eq_true c38; clear c38; (try (have c38h := c38b0; simp only [hl365000_1] at c38h))
         by_cases c39 : 0 ≤ x1_1
         ·rw [if_pos c39] at H
          have c39b0 : decide (0 ≤ x1_1) = true := decide_eq_true c39; clear c39
          by_cases c40 : x1_1 < (Ja.length : Int)
          ·rw [if_pos c40] at H
           have c40b0:decide (x1_1 < (Ja.length:Int))=true:=decide_eq_true c40;clear c40;(try (have c40h:=c40b0;simp only [hl365000_1] at c40h));obtain ⟨Xb,A410,H⟩:=bs_.mp H;(try dsimp only at H);have A41:=D A410;clear A410;have HU42:=D H;clear H
           try go_wp2
           have n_ := an_ (Kd.R_drew Ka.out) <| an_ (blk_drew Ma.out) <| an_ (Kept.drew HK.out) <| D (below_drew1 HB.out)
           clear Ka Ma HK HB;obtain ⟨Ka,Ma,HK,HB⟩:=n_;have p375:0≤((ji36):Int):=od_ Z22;have q375:(ji36) < (Ja.length:Int):=od_ Z22;obtain ⟨ad375,e375,hx375_0,hx375_1⟩:=at_T32 (Kd.R_reads' Ka.out).2.2 (ji36) p375 q375;cases e375;replace p375:=eq_true p375;replace q375:=eq_true q375;have p376:0≤(x1_1:Int):=od_ Z22;have q376:x1_1 < (Ja.length:Int):=od_ Z22;obtain ⟨ad376,e376,hx376_0,hx376_1⟩:=at_T32 (Kd.R_reads' Ka.out).2.2 x1_1 p376 q376;obtain rfl:ad375=ad376:=(by injection e376);replace p376:=eq_true p376;replace q376:=eq_true q376;refine start_ (n:=19) (S:=fun w'=>w'.cell? ⟨Oa,0,none⟩=some (Y (some ad375) Ja.length Ua)∧w'.cell? (ad375.add (((ji36)).toNat * 2))=some (I L ((rd_T32 Ja (ji36)).f0))∧w'.cell? ⟨(ad375.add (((ji36)).toNat * 2)).block,(ad375.add (((ji36)).toNat * 2)).off + 1,none⟩=some (I L ((rd_T32 Ja (ji36)).f1))∧w'.cell? (ad375.add ((x1_1).toNat * 2))=some (I L ((rd_T32 Ja x1_1).f0))∧w'.cell? ⟨(ad375.add ((x1_1).toNat * 2)).block,(ad375.add ((x1_1).toNat * 2)).off + 1,none⟩=some (I L ((rd_T32 Ja x1_1).f1))) (ds:=[]) (bz 19 0) (by kernel_rfl) rfl (by kernel_rfl) ⟨bc_ Ma.out 0,hx375_0,hx375_1,hx376_0,hx376_1⟩ (fun hHeld=>?_);refine with_tabW impl_Heap_down.tab4 impl_Heap_down.bits4 (fun HT_ HW_=>?_);generalize wc.drew=w43 at Ka Ma HK HB hx375_0 hx375_1 hx376_0 hx376_1 hHeld ⊢;refine pb_ 0 ?_;refine pb_ 1 ?_;refine tb_ 2 rfl rfl hHeld Z20 ?_;refine pb_ 3 ?_;refine pb_ 4 ?_;refine pb_ 5 ?_;refine pb_ 6 ?_;refine pb_ 8 ?_;refine pb_ 11 ?_;refine pb_ 13 ?_;refine tb_ 7 rfl rfl hHeld Z20 ?_;refine pb_ 9 ?_;refine tb_ 10 rfl rfl hHeld Z20 ?_;refine tb_ 12 rfl rfl hHeld Z20 ?_;refine pb_ 14 ?_;refine tb_ 15 rfl rfl hHeld Z20 ?_;refine oa_ 16 46 19 131071 HT_ (fun K hK=>?_);refine goes_ Try.func20 (by kernel_rfl) rfl #[.agg #[I L ((rd_T32 Ja (ji36)).f0),I L ((rd_T32 Ja (ji36)).f1)],.agg #[I L ((rd_T32 Ja x1_1).f0),I L ((rd_T32 Ja x1_1).f1)]] (by rfl) rfl rfl (by (try simp only [List.map_toArray,List.map_cons,List.map_nil]);first|done|(simp only [hji36];rfl)|rfl|(simp only [List.length_drop,List.length_take];rfl)) ?_;with_reducible refine (impl_Ahead.calls ((rd_T32 Ja (ji36)).f0) ((rd_T32 Ja (ji36)).f1) ((rd_T32 Ja x1_1).f0) ((rd_T32 Ja x1_1).f1) Xb _ A41.out).mono ?_
           rintro e w44 ⟨rfl,hb⟩;have HS1_:=(hb.cell (World.block_lt_of_cell? _ _ (hHeld.2.1))).trans (hHeld.2.1);have HS2_:=(hb.cell (World.block_lt_of_cell? _ _ (hHeld.2.2.1))).trans (hHeld.2.2.1);have HS3_:=(hb.cell (World.block_lt_of_cell? _ _ (hHeld.2.2.2.1))).trans (hHeld.2.2.2.1);have HS4_:=(hb.cell (World.block_lt_of_cell? _ _ (hHeld.2.2.2.2))).trans (hHeld.2.2.2.2);refine ⟨_,rfl,?_⟩
           have n_ := an_ (Kd.R_below (pR_ Ka.out) hb) <| an_ (blk_below (pk_ Ma.out) hb) <| an_ (Kept.below (S := (fun k_ => P0_0_ k_)) Z7 hb) <| D (below_step (pB_ HB.out) hb)
           clear Ka Ma HK HB;obtain ⟨Ka,Ma,HK,HB⟩:=n_;refine hK.out _ _ ⟨bc_ Ma.out 0,HS1_,HS2_,HS3_,HS4_⟩ (fun hHeld=>?_);clear hK K;refine nx_ (N:=some 46) ?_;refine pb_ 17 ?_;refine pb_ 18 ?_;refine done_ (done_of HT_.out (by kernel_rfl)) ?_
           go_upto_if 48 with (fail)
           have H := HU42.out; clear HU42
           by_cases c45 : Xb = true
           ·subst c45
            rw [if_pos rfl] at H; obtain ⟨y380, hy380⟩ : ∃ y_ : List (S32), y_ = (Ja.set (x1_1 : Int).toNat (⟨(rd_T32 Ja (ji36)).f0, (rd_T32 Ja (ji36)).f1⟩ : S32)) := ⟨_, rfl⟩
            replace H:(impl_Heap_down.l0 kj4 (ji36) (y380.set ((ji36):Int).toNat (⟨(rd_T32 Ja x1_1).f0,(rd_T32 Ja x1_1).f1⟩:S32)))=some r:=by first|(rw [hy380];with_reducible exact H)|(have H2_:=(Option.bind_some _ _).symm.trans H;rw [hy380];with_reducible exact H2_)|(have H2_:=(Option.bind_some _ _).symm.trans H;with_reducible exact H2_)|with_reducible exact H|(rw [hy380];exact H)|exact H
            have Ny380 := D hy380; clear hy380; obtain ⟨y381, hy381⟩ : ∃ y_ : List (S32), y_ = (y380.set ((ji36) : Int).toNat (⟨(rd_T32 Ja x1_1).f0, (rd_T32 Ja x1_1).f1⟩ : S32)) := ⟨_, rfl⟩
            replace H:(impl_Heap_down.l0 kj4 (ji36) y381)=some r:=by first|(rw [hy381];with_reducible exact H)|(have H2_:=(Option.bind_some _ _).symm.trans H;rw [hy381];with_reducible exact H2_)|(have H2_:=(Option.bind_some _ _).symm.trans H;with_reducible exact H2_)|with_reducible exact H|(rw [hy381];exact H)|exact H
            have Ny381 := D hy381; clear hy381; have H' := D H; clear H
            try go_wp2
            have n_ := an_ (Kd.R_drew Ka.out) <| an_ (blk_drew Ma.out) <| an_ (Kept.drew HK.out) <| D (below_drew1 HB.out)
            clear Ka Ma HK HB;obtain ⟨Ka,Ma,HK,HB⟩:=n_;have p378:0≤((ji36):Int):=od_ Z22;have q378:(ji36) < (Ja.length:Int):=od_ Z22;obtain ⟨ad378,e378,hx378_0,hx378_1⟩:=at_T32 (Kd.R_reads' Ka.out).2.2 (ji36) p378 q378;obtain rfl:ad375=ad378:=(by injection e378);replace p378:=eq_true p378;replace q378:=eq_true q378;have p379:0≤(x1_1:Int):=od_ Z22;have q379:x1_1 < (Ja.length:Int):=od_ Z22;obtain ⟨ad379,e379,hx379_0,hx379_1⟩:=at_T32 (Kd.R_reads' Ka.out).2.2 x1_1 p379 q379;obtain rfl:ad375=ad379:=(by injection e379);replace p379:=eq_true p379;replace q379:=eq_true q379;have p46:0≤(x1_1:Int):=od_ Z22;have q46:(x1_1:Int) < ((Ja.length:Int):Int):=od_ Z22;obtain ⟨go46,Uc,eo46,Mc,gl46,cl46,HG46⟩:=Kd.R_form Ka.out (by omega);(first|cases eo46|(injection eo46 with ea_ en_ ec_;(first|subst ea_|(injection ea_ with ea_;subst ea_));subst ec_;clear en_));have GB46:=D Mc;have GG46:=D HG46;clear Mc gl46 HG46;have HMgo46:=D (show (P0_0_ go46 ∨ w.heap.size≤go46) from (Ka.out.1 _ rfl));(first|simp only [add_plain] at hx375_0|skip);(first|simp only [add_plain] at hx375_1|skip);(first|simp only [add_plain] at hx376_0|skip);(first|simp only [add_plain] at hx376_1|skip);(first|simp only [add_plain] at hx378_0|skip);(first|simp only [add_plain] at hx378_1|skip);(first|simp only [add_plain] at hx379_0|skip);(first|simp only [add_plain] at hx379_1|skip);obtain ⟨ce46,hcl46,hM46,hcc46,hfr46⟩:=Kd.R_elem Ka.out z32 (x1_1:Int) p46 q46;obtain rfl:=k32_openM hM46;have hx46_0:World.cell? _ ⟨go46,(x1_1:Int).toNat * 2,none⟩=some (I L ((rd_T32 Ja x1_1).f0)):=hcc46 0 _ rfl;have hx46_1:World.cell? _ ⟨go46,(x1_1:Int).toNat * 2 + 1,none⟩=some (I L ((rd_T32 Ja x1_1).f1)):=hcc46 1 _ rfl;have hf46_0:World.frozen? _ ⟨go46,(x1_1:Int).toNat * 2,none⟩=false:=hfr46 0;have hf46_1:World.frozen? _ ⟨go46,(x1_1:Int).toNat * 2 + 1,none⟩=false:=hfr46 1;clear hcl46 hcc46 hfr46 hM46;replace p46:=eq_true p46;replace q46:=eq_true q46;obtain ⟨ce49,hcl49,hM49,hcc49,hfr49⟩:=Kd.R_elem Ka.out z32 (x1_1:Int) (od_ Z22) (by have h_:(x1_1:Int) < ((Ja.length:Int):Int):=od_ Z22;first|exact h_|(have e_:=(Kd.R_reads' Ka.out).1;omega)|simpa using h_);obtain rfl:=k32_openM hM49;have HP49:=(Kd.R_seg Ka.out (x1_1:Int) (od_ Z22) (by have h_:(x1_1:Int) < ((Ja.length:Int):Int):=od_ Z22;first|exact h_|(have e_:=(Kd.R_reads' Ka.out).1;omega)|simpa using h_) (seg:=[I L ((rd_T32 Ja (ji36)).f0),I L ((rd_T32 Ja (ji36)).f1)]) (j:=0) hcl49 hcc49 (show 2≤2 from by decide) (x':=(⟨(rd_T32 Ja (ji36)).f0,(rd_T32 Ja (ji36)).f1⟩:S32)) (k32_mkM _ _ _ (⟨(rd_T32 Ja (ji36)).f0,(rd_T32 Ja (ji36)).f1⟩:S32) ) (fun _ hk=>hk)).1;rw [← Ny380.out] at HP49;have HQ49:=D HP49;clear hcl49 hcc49 hfr49 hM49 HP49;have p47:0≤((ji36):Int):=od_ Z22;have q47:((ji36):Int) < ((Ja.length:Int):Int):=od_ Z22;obtain ⟨ce47,hcl47,hM47,hcc47,hfr47⟩:=Kd.R_elem HQ49.out z32 ((ji36):Int) p47 q47;obtain rfl:=k32_openM hM47;have hx47_0:World.cell? _ ⟨go46,((ji36):Int).toNat * 2,none⟩=some (I L ((rd_T32 y380 (ji36)).f0)):=hcc47 0 _ rfl;have hx47_1:World.cell? _ ⟨go46,((ji36):Int).toNat * 2 + 1,none⟩=some (I L ((rd_T32 y380 (ji36)).f1)):=hcc47 1 _ rfl;have hf47_0:World.frozen? _ ⟨go46,((ji36):Int).toNat * 2,none⟩=false:=hfr47 0;have hf47_1:World.frozen? _ ⟨go46,((ji36):Int).toNat * 2 + 1,none⟩=false:=hfr47 1;clear hcl47 hcc47 hfr47 hM47;replace p47:=eq_true p47;replace q47:=eq_true q47;obtain ⟨ce50,hcl50,hM50,hcc50,hfr50⟩:=Kd.R_elem HQ49.out z32 ((ji36):Int) (od_ Z22) (by have h_:((ji36):Int) < ((Ja.length:Int):Int):=od_ Z22;first|exact h_|(have e_:=(Kd.R_reads' Ka.out).1;omega)|simpa using h_)
            obtain rfl:=k32_openM hM50;have HP50:=(Kd.R_seg HQ49.out ((ji36):Int) (od_ Z22) (by have h_:((ji36):Int) < ((Ja.length:Int):Int):=od_ Z22;first|exact h_|(have e_:=(Kd.R_reads' Ka.out).1;omega)|simpa using h_) (seg:=[I L ((rd_T32 Ja x1_1).f0),I L ((rd_T32 Ja x1_1).f1)]) (j:=0) hcl50 hcc50 (show 2≤2 from by decide) (x':=(⟨(rd_T32 Ja x1_1).f0,(rd_T32 Ja x1_1).f1⟩:S32)) (k32_mkM _ _ _ (⟨(rd_T32 Ja x1_1).f0,(rd_T32 Ja x1_1).f1⟩:S32) ) (fun _ hk=>hk)).1;rw [← Ny381.out] at HP50;have HQ50:=D HP50;clear hcl50 hcc50 hfr50 hM50 HP50;refine start_ (n:=20) (S:=fun w'=>w'.cell? ⟨Oa,0,none⟩=some (Y (some ⟨go46,0,none⟩) Ja.length Ua)) (ds:=[]) (bz 20 0) (by kernel_rfl) rfl (by kernel_rfl) (bc_ Ma.out 0) (fun hHeld=>?_);refine with_tabW impl_Heap_down.tab5 impl_Heap_down.bits5 (fun HT_ HW_=>?_);generalize w44.drew=w48 at Ka Ma HK HB GG46 HQ49 HQ50 hf46_0 hf46_1 hf47_0 hf47_1 hx375_0 hx375_1 hx376_0 hx376_1 hx378_0 hx378_1 hx379_0 hx379_1 hx46_0 hx46_1 hx47_0 hx47_1 hHeld ⊢;refine pb_ 0 ?_;refine pb_ 2 ?_;refine pb_ 3 ?_;refine pb_ 5 ?_;refine pb_ 6 ?_;refine pb_ 8 ?_;refine pb_ 11 ?_;refine pb_ 13 ?_;refine tb_ 1 rfl rfl hHeld Z25 ?_;refine tb_ 4 rfl rfl hHeld Z25 ?_;refine tb_ 7 rfl rfl hHeld Z25 ?_;refine pb_ 9 ?_;refine tb_ 12 rfl rfl hHeld Z25 ?_;refine pb_ 14 ?_;refine cut_ (a2:=?_) 4 (bz 20 65535) ?_ ?_;rotate_left
            ·intro hCont
             refine two_ (i:=10) (j:=15) (Ni:=some 59) (Nj:=some 64) (bz 20 32767) (bz 20 64511) rfl rfl rfl rfl (two_of HT_.out (by kernel_rfl)) (by decide) (by decide) (fun K hK=>?_) (fun K hK=>?_)
             ·skip
              refine value_ (w1 := ?_) (v := ?_) (by rfl) rfl ?_ ?_; rotate_left 2
              ·go_simp
               constructor
               ·rfl
               ·rfl
              refine hK.out _ _ (hHeld) (fun hHeld=>?_);clear hK K;refine nx_ (N:=some 59) ?_;refine oa_ 15 64 20 65535 HT_ (fun K hK=>?_);refine value_ (w1:=?_) (v:=?_) (by rfl) rfl ?_ ?_;rotate_left 2
              ·go_simp
               constructor
               ·rfl
               ·rfl
              refine hK.out _ _ (hHeld) (fun hHeld => ?_); clear hK K; refine nx_ (N := some 64) ?_; exact norm_ (by rfl) hCont
             ·skip
              refine value_ (w1 := ?_) (v := ?_) (by rfl) rfl ?_ ?_; rotate_left 2
              ·go_simp
               constructor
               ·rfl
               ·rfl
              refine hK.out _ _ (hHeld) (fun hHeld=>?_);clear hK K;refine nx_ (N:=some 64) ?_;refine oa_ 10 59 20 65535 HT_ (fun K hK=>?_);refine value_ (w1:=?_) (v:=?_) (by rfl) rfl ?_ ?_;rotate_left 2
              ·go_simp
               constructor
               ·rfl
               ·rfl
              refine hK.out _ _ (hHeld) (fun hHeld => ?_); clear hK K; refine nx_ (N := some 59) ?_; exact norm_ (by rfl) hCont
            refine pb_ 16 ?_;refine one_ (i:=17) (N:=none) (bz 20 262143) rfl rfl (one_of HT_.out (by kernel_rfl)) (by decide) (fun K hK=>?_);refine skip_ (w1:=?_) (by rfl) rfl ?_ ?_;rotate_left
            ·go_simp
             rfl
            refine hK.out _ _ (((cell_far (p:=⟨go46,_,none⟩) (show Oa≠go46 from Z31) _).trans (((cell_far (p:=⟨go46,_,none⟩) (show Oa≠go46 from Z31) _).trans (hHeld))))) (fun hHeld=>?_);clear hK K;refine pb_ 18 ?_;refine one_ (i:=19) (N:=none) (bz 20 1048575) rfl rfl (one_of HT_.out (by kernel_rfl)) (by decide) (fun K hK=>?_);have hz0_:=hx47_0
            change (World.setCell (World.setCell _ ⟨go46, (x1_1 : Int).toNat * 2, none⟩ _) ⟨go46, (x1_1 : Int).toNat * 2 + 1, none⟩ _).cell? ⟨go46, ((ji36) : Int).toNat * 2, none⟩ = _ at hz0_
            have hz1_ := hx47_1
            change (World.setCell (World.setCell _ ⟨go46, (x1_1 : Int).toNat * 2, none⟩ _) ⟨go46, (x1_1 : Int).toNat * 2 + 1, none⟩ _).cell? ⟨go46, ((ji36) : Int).toNat * 2 + 1, none⟩ = _ at hz1_
            have hy_:=(World.cell?_setCell_other _ _ _ _ Z24).symm.trans hz0_;have hw0_:=hf47_0;have hw1_:=hf47_1;rw [World.frozen?_setCells] at hw0_ hw1_;refine skip_ (w1:=?_) (by rfl) rfl ?_ ?_;rotate_left
            ·go_simp
             rfl
            refine hK.out _ _ (((cell_far (p:=⟨go46,_,none⟩) (show Oa≠go46 from Z31) _).trans (((cell_far (p:=⟨go46,_,none⟩) (show Oa≠go46 from Z31) _).trans (hHeld))))) (fun hHeld=>?_);clear hK K;refine done_ (done_of HT_.out (by kernel_rfl)) ?_
            try go_wp2
            (try simp only [← hl365000_1]); go_roundg kj4
            case measure => have := HK1.out; have := HJ4.out; omega
            case rel=>exact ⟨((ji36)),(y381),(by first|rfl|(simp;done)|(simp only [← hji36] <;> (first|rfl|simp))|(simp [*];done)),H',⟨by have:=HK1.out;have:=HJ4.out;omega⟩,⟨by (try simp only [hl365000_1]);(with_reducible repeat (first|apply Kd.R_alloc|apply Kd.R_drewN|apply Kd.R_drew));exact HQ50.out⟩,⟨by (try simp only [hl365000_1]);refine pk_ ?_;refine blk_far ?_ Z31 _;refine pk_ ?_;refine blk_far ?_ Z31 _;refine pk_ ?_;refine blk_far ?_ Z31 _;refine pk_ ?_;refine blk_far ?_ Z31 _;refine pk_ ?_;exact Ma.out⟩,⟨by repeat (first|(with_reducible first|exact HK.out|apply Kept.alloc|apply Kept.drewN|apply Kept.drew|refine Kept.setCell ?_ HMgo46.out _|refine Kept.setCell ?_ HMgo46.out _|refine Kept.setCell ?_ HMgo46.out _|refine Kept.setCell ?_ HMgo46.out _|refine Kept.setCell ?_ (.inr Xa.out) _)|exact HK.out)⟩,⟨by repeat (first|(with_reducible first|exact HB.out|apply below_alloc|apply pw_below_drewN|apply below_drew1|refine below_set ?_ GB46.out|refine below_set ?_ GB46.out|refine below_set ?_ GB46.out|refine below_set ?_ GB46.out|refine below_set ?_ Jc.out)|exact HB.out)⟩⟩
           ·replace c45 := Bool.eq_false_iff.mpr c45
            subst c45; rw [if_neg (show ¬ (false = true) by decide)] at H; obtain rfl := Option.some.inj H
            go_wp2
            first | go_end0 | ((try simp only [Exit.inBlock, Exit.then]); refine bodyPost_ret (results_none rfl _ _ _) rfl ?_)
            exact ⟨by first|rfl|(simp [errW_none,errW_some] <;> rfl)|(simp only [← hji36];first|rfl|(simp [errW_none,errW_some] <;> rfl))|(simp [*,errW_none,errW_some] <;> rfl),Z18,pB_ HB.out,by repeat (first|(with_reducible first|exact HK.out|apply Kept.alloc|apply Kept.drewN|apply Kept.drew|refine Kept.setCell ?_ (.inr Xa.out) _)|exact HK.out)⟩
          ·rw [if_neg c40] at H
           exact absurd H (by simp)
         ·rw [if_neg c39] at H
          exact absurd H (by simp)
        ·rw [if_neg c38] at H
         exact absurd H (by simp)
       ·rw [if_neg c37] at H
        exact absurd H (by simp)

end Go.Proofs.Ytcindcakncngnaa.PFnHeapSorts
