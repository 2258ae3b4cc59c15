-- by a program of this session's, over the kit's words
import Derived.Test.YtcindcakncngnaaPZFnHeapSorts
import Derived.Test.YtcindcakncngnaaPFnHeapSortsx0
import Derived.Test.YtcindcakncngnaaPFnHeapSortsx7
import Derived.Test.YtcindcakncngnaaPFnHeapSortsx10
namespace Go.Proofs.Ytcindcakncngnaa.PFnHeapSorts
open Go.RowKit Go.Proofs.YtcindcakncngnaaW.PrintWords Go.Proofs.YtcindcakncngnaaW.PrintLast Go.Proofs.YtcindcakncngnaaW.PrintMore Go.Proofs.YtcindcakncngnaaV Go.Proofs.Ytcindcakncngnaa.ZFnHeapSorts
open Go.Value renaming int → I, slice → Y
open Go.IntKind renaming i64 → L
open Aside0 renaming mk → D
open Option renaming bind_eq_some_iff → bs_
attribute [local go_sem] max2_int min2_int max_two min_two max_three min_three max_four min_four   -- for this text's walks alone
set_option linter.unusedVariables false
set_option linter.unusedSimpArgs false

/-! ### impl_Heap_up: function 32 -/
def impl_Heap_up.l0 : Nat → Int → List (S32) → Option (Int × (List (S32)))
 | 0, _, _ => none
 | k + 1,x1,x383000=>if x1 > 0 then (if 0≤x1 then (if x1 < (x383000.length:Int) then (if 0≤(wrap64 (Int.tdiv (wrap64 (x1 - 1)) 2)) then (if (wrap64 (Int.tdiv (wrap64 (x1 - 1)) 2)) < (x383000.length:Int) then ((impl_Ahead.f ((rd_T32 x383000 x1).f0) ((rd_T32 x383000 x1).f1) ((rd_T32 x383000 (wrap64 (Int.tdiv (wrap64 (x1 - 1)) 2))).f0) ((rd_T32 x383000 (wrap64 (Int.tdiv (wrap64 (x1 - 1)) 2))).f1)).bind fun t385=>(if t385=true then (impl_Heap_up.l0 k (wrap64 (Int.tdiv (wrap64 (x1 - 1)) 2)) ((x383000.set (x1:Int).toNat (⟨(rd_T32 x383000 (wrap64 (Int.tdiv (wrap64 (x1 - 1)) 2))).f0,(rd_T32 x383000 (wrap64 (Int.tdiv (wrap64 (x1 - 1)) 2))).f1⟩:S32)).set ((wrap64 (Int.tdiv (wrap64 (x1 - 1)) 2)):Int).toNat (⟨(rd_T32 x383000 x1).f0,(rd_T32 x383000 x1).f1⟩:S32))) else (some (x1,x383000)))) else (none)) else (none)) else (none)) else (none)) else (some (x1,x383000))
def impl_Heap_up.f (k : Nat) (l0_0 : List (S32)) (a1 : Int) : Option (Int × (List (S32))) := impl_Heap_up.l0 k a1 l0_0
def impl_Heap_up.T1 : Bool × List (List Nat × List Nat) := (true, [([], []), ([0], [0]), ([1], [1]), ([2], [2]), ([3, 2], [2, 3]), ([2], [2]), ([4, 5, 2], [2, 4, 5]), ([6, 2], [2, 6]), ([2], [2]), ([8, 2], [2, 8]), ([2], [2]), ([10, 2], [2, 10]), ([11, 2], [2, 11]), ([9, 12, 2], [2, 9, 12]), ([13, 2], [2, 13]), ([7, 14, 2, 2], [2, 7, 14]), ([2, 15], [2, 15])])
def impl_Heap_up.B1 : List Nat := [0, 1, 3, 7, 15, 7, 63, 127, 7, 263, 7, 1031, 3079, 7943, 16135, 32767, 65535]
theorem impl_Heap_up.tab1 : rtab .any (opsOf Try.f32 1) = impl_Heap_up.T1 := by kernel_rfl
theorem impl_Heap_up.bits1 : waitsOk impl_Heap_up.T1.2 impl_Heap_up.B1 = true := by kernel_rfl
def impl_Heap_up.T3 : Bool × List (List Nat × List Nat) := (true, [([], []), ([0], [0]), ([], []), ([], []), ([3], [3]), ([], []), ([], []), ([6], [6]), ([], []), ([7, 8], [7, 8]), ([9], [9]), ([], []), ([11], [11]), ([], []), ([12, 13], [12, 13]), ([14], [14]), ([1, 2, 0, 1, 2, 6, 7, 8, 9, 10, 15], [1, 2]), ([16, 10, 0, 1, 2, 6, 7, 8, 9, 10, 15], [10, 16]), ([4, 5, 0, 1, 2, 3, 4, 5, 6, 7, 8, 9, 10, 11, 12, 13, 14, 15, 16, 17], [4, 5]), ([18, 15, 17, 0, 1, 2, 3, 4, 5, 6, 7, 8, 9, 10, 11, 12, 13, 14, 15, 16, 17], [15, 18])])
def impl_Heap_up.B3 : List Nat := [0, 1, 0, 0, 8, 0, 0, 64, 0, 448, 960, 0, 2048, 0, 14336, 30720, 65479, 131015, 262143, 524287]
theorem impl_Heap_up.tab3 : rtab .any (opsOf Try.f32 3) = impl_Heap_up.T3 := by kernel_rfl
theorem impl_Heap_up.bits3 : waitsOk impl_Heap_up.T3.2 impl_Heap_up.B3 = true := by kernel_rfl
set_option maxHeartbeats 8000000 in
set_option maxRecDepth 100000 in
theorem impl_Heap_up.calls (k : Nat) (P0_0_ : Nat → Prop) (u9000_ : Value) (l0_0 : List (S32)) (a1 r1 : Int) (r2 : List (S32)) (w0 w : World) (hB : Below w0.heap.size w0 w) (ho0_0 : Kd.R k32 32 w w0.heap.size P0_0_ u9000_ l0_0) (h : impl_Heap_up.f k l0_0 a1 = some (r1, r2)) :
  Calls Try.prog 32 #[.agg #[u9000_],I L a1] w fun e w'=>e=.returned (I L r1)∧Kd.R k32 32 w' w0.heap.size (fun k_=>(P0_0_ k_ ∨ w.heap.size≤k_)) u9000_ r2∧Below w0.heap.size w0 w'∧Kept w w' (fun k_=>P0_0_ k_):=by
 have hu26 := Try.underlying26
 have hu32 := Try.underlying32
 have Ua := D (show Kd.R k32 32 w w0.heap.size (fun k_ => (P0_0_ k_ ∨ w.heap.size ≤ k_)) u9000_ l0_0 from Kd.R_mono ho0_0 (fun k_ hk => (.inl hk)))
 have HK := D (Kept.refl w (fun k_ => P0_0_ k_))
 have HW0 := D hB.size
 have HB := D hB
 clear hB
 have H : (impl_Heap_up.l0 k a1 l0_0) = some (r1, r2) := h
 clear h
 have H' := D H
 clear H
 obtain ⟨Mb, Xa, eo3⟩ := Kd.R_slice Ua.out
 subst eo3
 go_enter Try.func32, Try.ntmps32
 go_wp2_with (first|((with_reducible refine gate_dst (N:=2) rfl ?_);refine bx_ (N:=2) (cs:=#[Y Mb l0_0.length Xa]) (t:=26) ?_;intro Oa hg w4 hbox hb;have n_:=an_ (Kd.R_below (pR_ Ua.out) hb)<|an_ (Kept.below (S:=(fun k_=>P0_0_ k_)) Z11 hb)<|an_ (below_step (pB_ HB.out) hb)<|an_ (hbox)<|an_ ((by rw [hg];exact Z2:w.heap.size≤Oa))<|D (by rw [hg];exact (below_size (pB_ HB.out)):w0.heap.size≤Oa);clear Ua HK HB;obtain ⟨Ua,HK,HB,Ma,Jb,Ub⟩:=n_;clear hb hbox hg))
 (try simp only [Act.put, List.setIfInBounds_toArray, List.set_cons_zero, List.set_cons_succ])
 go_loopg [1] k (fun kq v1 w'=>∃ (x1_1:Int) (Ja:List (S32)),v1=I L x1_1∧Aside0 (impl_Heap_up.l0 kq x1_1 Ja=some (r1,r2))∧Aside0 (kq≤k)∧Aside0 (Kd.R k32 32 w' w0.heap.size (fun k_=>(P0_0_ k_ ∨ w.heap.size≤k_)) (Y Mb l0_0.length Xa) Ja)∧Aside0 (w'.heap[Oa]?=some (.cells #[(Y Mb l0_0.length Xa)] 26 (0,0)))∧Aside0 (Kept w w' (fun k_=>P0_0_ k_))∧Aside0 (Below w0.heap.size w0 w'))
 case atStart=>exact ⟨(a1),(l0_0),Z23,H',⟨Nat.le_refl _⟩,⟨pR_ Ua.out⟩,⟨pk_ Ma.out⟩,⟨by repeat (first|(with_reducible first|exact HK.out|apply Kept.alloc|apply Kept.drewN|apply Kept.drew|refine Kept.setCell ?_ (.inr Jb.out) _)|exact HK.out)⟩,⟨pB_ HB.out⟩⟩
 case round =>
  clear H'
  (try clear p2);(try clear c3)
  obtain ⟨x1_1, Ja, rfl, HA, HK1, Ka, Ma, HK, HB⟩ := hrel; have hl383000_1 := (Kd.R_reads' Ka.out).1; rw [hl383000_1] at Ka; (try simp only [hl383000_1]); (try simp only [hl383000_1] at Ma)
  cases gk with
  | zero => exact absurd HA.out (by simp [impl_Heap_up.l0])
  | succ k1 =>
   have H := HA.out; clear HA; simp only [impl_Heap_up.l0] at H
   by_cases c5 : x1_1 > 0
   ·rw [if_pos c5] at H
    have c5b0 : decide (0 < x1_1) = true := decide_eq_true c5; clear c5
    by_cases c6 : 0 ≤ x1_1
    ·rw [if_pos c6] at H
     have c6b0 : decide (0 ≤ x1_1) = true := decide_eq_true c6; clear c6
     by_cases c7 : x1_1 < (Ja.length : Int)
     ·rw [if_pos c7] at H
      have c7b0:decide (x1_1 < (Ja.length:Int))=true:=decide_eq_true c7;clear c7;(try (have c7h:=c7b0;simp only [hl383000_1] at c7h));obtain ⟨ji8,hji8⟩:∃ j_:Int,(wrap64 (Int.tdiv (wrap64 (x1_1 - 1)) 2))=j_:=⟨_,rfl⟩
      replace H:(if 0≤(ji8) then (if (ji8) < (Ja.length:Int) then ((impl_Ahead.f ((rd_T32 Ja x1_1).f0) ((rd_T32 Ja x1_1).f1) ((rd_T32 Ja (ji8)).f0) ((rd_T32 Ja (ji8)).f1)).bind fun Kb=>(if Kb=true then (impl_Heap_up.l0 k1 ji8 ((Ja.set (x1_1:Int).toNat (⟨(rd_T32 Ja (ji8)).f0,(rd_T32 Ja (ji8)).f1⟩:S32)).set ((ji8):Int).toNat (⟨(rd_T32 Ja x1_1).f0,(rd_T32 Ja x1_1).f1⟩:S32))) else (some (x1_1,Ja)))) else (none)) else (none))=some (r1,r2):=by first|(rw [hji8] at H;exact H)|(simp only [hji8] at H ⊢;exact H)
      have hji8w : (IntKind.i64.wrap (Int.tdiv (wrap64 (x1_1 - 1)) 2)) = ji8 := (i64_w _).trans hji8
      by_cases c9 : 0 ≤ (ji8)
      ·rw [if_pos c9] at H
       have c9b0 : decide (0 ≤ (ji8)) = true := decide_eq_true c9; clear c9
       by_cases c10 : (ji8) < (Ja.length : Int)
       ·rw [if_pos c10] at H
        have c10b0:decide ((ji8) < (Ja.length:Int))=true:=decide_eq_true c10;clear c10;(try (have c10h:=c10b0;simp only [hl383000_1] at c10h));obtain ⟨Kb,A110,H⟩:=bs_.mp H;(try dsimp only at H);have A11:=D A110;clear A110;have HU12:=D H;clear H
        try go_wp2
        have n_ := an_ (Kd.R_drew Ka.out) <| an_ (blk_drew Ma.out) <| an_ (Kept.drew HK.out) <| D (below_drew1 HB.out)
        clear Ka Ma HK HB;obtain ⟨Ka,Ma,HK,HB⟩:=n_;have p383:0≤(x1_1:Int):=od_ Z22;have q383:x1_1 < (Ja.length:Int):=od_ Z22;obtain ⟨ad383,e383,hx383_0,hx383_1⟩:=at_T32 (Kd.R_reads' Ka.out).2.2 x1_1 p383 q383;cases e383;replace p383:=eq_true p383;replace q383:=eq_true q383;have p384:0≤((ji8):Int):=od_ Z22;have q384:(ji8) < (Ja.length:Int):=od_ Z22;obtain ⟨ad384,e384,hx384_0,hx384_1⟩:=at_T32 (Kd.R_reads' Ka.out).2.2 (ji8) p384 q384;obtain rfl:ad383=ad384:=(by injection e384);replace p384:=eq_true p384;replace q384:=eq_true q384;refine start_ (n:=17) (S:=fun w'=>w'.cell? ⟨Oa,0,none⟩=some (Y (some ad383) Ja.length Xa)∧w'.cell? (ad383.add ((x1_1).toNat * 2))=some (I L ((rd_T32 Ja x1_1).f0))∧w'.cell? ⟨(ad383.add ((x1_1).toNat * 2)).block,(ad383.add ((x1_1).toNat * 2)).off + 1,none⟩=some (I L ((rd_T32 Ja x1_1).f1))∧w'.cell? (ad383.add (((ji8)).toNat * 2))=some (I L ((rd_T32 Ja (ji8)).f0))∧w'.cell? ⟨(ad383.add (((ji8)).toNat * 2)).block,(ad383.add (((ji8)).toNat * 2)).off + 1,none⟩=some (I L ((rd_T32 Ja (ji8)).f1))) (ds:=[]) (bz 17 0) (by kernel_rfl) rfl (by kernel_rfl) ⟨bc_ Ma.out 0,hx383_0,hx383_1,hx384_0,hx384_1⟩ (fun hHeld=>?_);refine with_tabW impl_Heap_up.tab1 impl_Heap_up.bits1 (fun HT_ HW_=>?_);generalize wr.drew=w13 at Ka Ma HK HB hx383_0 hx383_1 hx384_0 hx384_1 hHeld ⊢;refine pb_ 0 ?_;refine pb_ 1 ?_;refine pb_ 2 ?_;refine pb_ 3 ?_;refine pb_ 5 ?_;refine pb_ 8 ?_;refine pb_ 10 ?_;refine pb_ 11 ?_;refine pb_ 12 ?_;refine tb_ 4 rfl rfl hHeld Z20 ?_;refine pb_ 6 ?_;refine tb_ 7 rfl rfl hHeld Z20 ?_;refine tb_ 9 rfl rfl hHeld Z20 ?_;refine pb_ 13 ?_;refine tb_ 14 rfl rfl hHeld Z20 ?_;refine oa_ 15 21 17 65535 HT_ (fun K hK=>?_);refine goes_ Try.func20 (by kernel_rfl) rfl #[.agg #[I L ((rd_T32 Ja x1_1).f0),I L ((rd_T32 Ja x1_1).f1)],.agg #[I L ((rd_T32 Ja (ji8)).f0),I L ((rd_T32 Ja (ji8)).f1)]] (by rfl) rfl rfl Z8 ?_;with_reducible refine (impl_Ahead.calls ((rd_T32 Ja x1_1).f0) ((rd_T32 Ja x1_1).f1) ((rd_T32 Ja (ji8)).f0) ((rd_T32 Ja (ji8)).f1) Kb _ A11.out).mono ?_
        rintro e w14 ⟨rfl,hb⟩;have HS1_:=(hb.cell (World.block_lt_of_cell? _ _ (hHeld.2.1))).trans (hHeld.2.1);have HS2_:=(hb.cell (World.block_lt_of_cell? _ _ (hHeld.2.2.1))).trans (hHeld.2.2.1);have HS3_:=(hb.cell (World.block_lt_of_cell? _ _ (hHeld.2.2.2.1))).trans (hHeld.2.2.2.1);have HS4_:=(hb.cell (World.block_lt_of_cell? _ _ (hHeld.2.2.2.2))).trans (hHeld.2.2.2.2);refine ⟨_,rfl,?_⟩
        have n_:=an_ (Kd.R_below (pR_ Ka.out) hb)<|an_ (blk_below (pk_ Ma.out) hb)<|an_ (Kept.below (S:=(fun k_=>P0_0_ k_)) (by repeat (first|(with_reducible first|exact HK.out|apply Kept.alloc|apply Kept.drewN|apply Kept.drew|refine Kept.setCell ?_ (.inr Jb.out) _)|exact HK.out)) hb)<|D (below_step (pB_ HB.out) hb)
        clear Ka Ma HK HB;obtain ⟨Ka,Ma,HK,HB⟩:=n_;refine hK.out _ _ ⟨bc_ Ma.out 0,HS1_,HS2_,HS3_,HS4_⟩ (fun hHeld=>?_);clear hK K;refine nx_ (N:=some 21) ?_;refine pb_ 16 ?_;refine done_ (done_of HT_.out (by kernel_rfl)) ?_
        go_upto_if 22 with (fail)
        have H := HU12.out; clear HU12
        by_cases c15 : Kb = true
        ·subst c15
         rw [if_pos rfl] at H; obtain ⟨y388, hy388⟩ : ∃ y_ : List (S32), y_ = (Ja.set (x1_1 : Int).toNat (⟨(rd_T32 Ja (ji8)).f0, (rd_T32 Ja (ji8)).f1⟩ : S32)) := ⟨_, rfl⟩
         replace H:(impl_Heap_up.l0 k1 ji8 (y388.set ((ji8):Int).toNat (⟨(rd_T32 Ja x1_1).f0,(rd_T32 Ja x1_1).f1⟩:S32)))=some (r1,r2):=by first|(rw [hy388];with_reducible exact H)|(have H2_:=(Option.bind_some _ _).symm.trans H;rw [hy388];with_reducible exact H2_)|(have H2_:=(Option.bind_some _ _).symm.trans H;with_reducible exact H2_)|with_reducible exact H|(rw [hy388];exact H)|exact H
         have Ny388 := D hy388; clear hy388; obtain ⟨y389, hy389⟩ : ∃ y_ : List (S32), y_ = (y388.set ((ji8) : Int).toNat (⟨(rd_T32 Ja x1_1).f0, (rd_T32 Ja x1_1).f1⟩ : S32)) := ⟨_, rfl⟩
         replace H:(impl_Heap_up.l0 k1 ji8 y389)=some (r1,r2):=by first|(rw [hy389];with_reducible exact H)|(have H2_:=(Option.bind_some _ _).symm.trans H;rw [hy389];with_reducible exact H2_)|(have H2_:=(Option.bind_some _ _).symm.trans H;with_reducible exact H2_)|with_reducible exact H|(rw [hy389];exact H)|exact H
         have Ny389 := D hy389; clear hy389; have H' := D H; clear H
         try go_wp2
         have n_ := an_ (Kd.R_drew Ka.out) <| an_ (blk_drew Ma.out) <| an_ (Kept.drew HK.out) <| D (below_drew1 HB.out)
         clear Ka Ma HK HB;obtain ⟨Ka,Ma,HK,HB⟩:=n_;have p386:0≤((ji8):Int):=od_ Z22;have q386:(ji8) < (Ja.length:Int):=od_ Z22;obtain ⟨ad386,e386,hx386_0,hx386_1⟩:=at_T32 (Kd.R_reads' Ka.out).2.2 (ji8) p386 q386;obtain rfl:ad383=ad386:=(by injection e386);replace p386:=eq_true p386;replace q386:=eq_true q386;have p387:0≤(x1_1:Int):=od_ Z22;have q387:x1_1 < (Ja.length:Int):=od_ Z22;obtain ⟨ad387,e387,hx387_0,hx387_1⟩:=at_T32 (Kd.R_reads' Ka.out).2.2 x1_1 p387 q387;obtain rfl:ad383=ad387:=(by injection e387);replace p387:=eq_true p387;replace q387:=eq_true q387;have p16:0≤(x1_1:Int):=od_ Z22;have q16:(x1_1:Int) < ((Ja.length:Int):Int):=od_ Z22;obtain ⟨go16,Jc,eo16,Ob,gl16,cl16,HG16⟩:=Kd.R_form Ka.out (by omega);(first|cases eo16|(injection eo16 with ea_ en_ ec_;(first|subst ea_|(injection ea_ with ea_;subst ea_));subst ec_;clear en_));have GB16:=D Ob;have GG16:=D HG16;clear Ob gl16 HG16;have HMgo16:=D (show (P0_0_ go16 ∨ w.heap.size≤go16) from (Ka.out.1 _ rfl));(first|simp only [add_plain] at hx383_0|skip);(first|simp only [add_plain] at hx383_1|skip);(first|simp only [add_plain] at hx384_0|skip);(first|simp only [add_plain] at hx384_1|skip);(first|simp only [add_plain] at hx386_0|skip);(first|simp only [add_plain] at hx386_1|skip);(first|simp only [add_plain] at hx387_0|skip);(first|simp only [add_plain] at hx387_1|skip);obtain ⟨ce16,hcl16,hM16,hcc16,hfr16⟩:=Kd.R_elem Ka.out z32 (x1_1:Int) p16 q16;obtain rfl:=k32_openM hM16;have hx16_0:World.cell? _ ⟨go16,(x1_1:Int).toNat * 2,none⟩=some (I L ((rd_T32 Ja x1_1).f0)):=hcc16 0 _ rfl;have hx16_1:World.cell? _ ⟨go16,(x1_1:Int).toNat * 2 + 1,none⟩=some (I L ((rd_T32 Ja x1_1).f1)):=hcc16 1 _ rfl;have hf16_0:World.frozen? _ ⟨go16,(x1_1:Int).toNat * 2,none⟩=false:=hfr16 0;have hf16_1:World.frozen? _ ⟨go16,(x1_1:Int).toNat * 2 + 1,none⟩=false:=hfr16 1;clear hcl16 hcc16 hfr16 hM16;replace p16:=eq_true p16;replace q16:=eq_true q16;obtain ⟨ce19,hcl19,hM19,hcc19,hfr19⟩:=Kd.R_elem Ka.out z32 (x1_1:Int) (od_ Z22) (by have h_:(x1_1:Int) < ((Ja.length:Int):Int):=od_ Z22;first|exact h_|(have e_:=(Kd.R_reads' Ka.out).1;omega)|simpa using h_);obtain rfl:=k32_openM hM19;have HP19:=(Kd.R_seg Ka.out (x1_1:Int) (od_ Z22) (by have h_:(x1_1:Int) < ((Ja.length:Int):Int):=od_ Z22;first|exact h_|(have e_:=(Kd.R_reads' Ka.out).1;omega)|simpa using h_) (seg:=[I L ((rd_T32 Ja (ji8)).f0),I L ((rd_T32 Ja (ji8)).f1)]) (j:=0) hcl19 hcc19 (show 2≤2 from by decide) (x':=(⟨(rd_T32 Ja (ji8)).f0,(rd_T32 Ja (ji8)).f1⟩:S32)) (k32_mkM _ _ _ (⟨(rd_T32 Ja (ji8)).f0,(rd_T32 Ja (ji8)).f1⟩:S32) ) (fun _ hk=>hk)).1;rw [← Ny388.out] at HP19;have HQ19:=D HP19;clear hcl19 hcc19 hfr19 hM19 HP19;have p17:0≤((ji8):Int):=od_ Z22;have q17:((ji8):Int) < ((Ja.length:Int):Int):=od_ Z22;obtain ⟨ce17,hcl17,hM17,hcc17,hfr17⟩:=Kd.R_elem HQ19.out z32 ((ji8):Int) p17 q17;obtain rfl:=k32_openM hM17;have hx17_0:World.cell? _ ⟨go16,((ji8):Int).toNat * 2,none⟩=some (I L ((rd_T32 y388 (ji8)).f0)):=hcc17 0 _ rfl;have hx17_1:World.cell? _ ⟨go16,((ji8):Int).toNat * 2 + 1,none⟩=some (I L ((rd_T32 y388 (ji8)).f1)):=hcc17 1 _ rfl;have hf17_0:World.frozen? _ ⟨go16,((ji8):Int).toNat * 2,none⟩=false:=hfr17 0;have hf17_1:World.frozen? _ ⟨go16,((ji8):Int).toNat * 2 + 1,none⟩=false:=hfr17 1;clear hcl17 hcc17 hfr17 hM17;replace p17:=eq_true p17;replace q17:=eq_true q17;obtain ⟨ce20,hcl20,hM20,hcc20,hfr20⟩:=Kd.R_elem HQ19.out z32 ((ji8):Int) (od_ Z22) (by have h_:((ji8):Int) < ((Ja.length:Int):Int):=od_ Z22;first|exact h_|(have e_:=(Kd.R_reads' Ka.out).1;omega)|simpa using h_)
         obtain rfl:=k32_openM hM20;have HP20:=(Kd.R_seg HQ19.out ((ji8):Int) (od_ Z22) (by have h_:((ji8):Int) < ((Ja.length:Int):Int):=od_ Z22;first|exact h_|(have e_:=(Kd.R_reads' Ka.out).1;omega)|simpa using h_) (seg:=[I L ((rd_T32 Ja x1_1).f0),I L ((rd_T32 Ja x1_1).f1)]) (j:=0) hcl20 hcc20 (show 2≤2 from by decide) (x':=(⟨(rd_T32 Ja x1_1).f0,(rd_T32 Ja x1_1).f1⟩:S32)) (k32_mkM _ _ _ (⟨(rd_T32 Ja x1_1).f0,(rd_T32 Ja x1_1).f1⟩:S32) ) (fun _ hk=>hk)).1;rw [← Ny389.out] at HP20;have HQ20:=D HP20;clear hcl20 hcc20 hfr20 hM20 HP20;refine start_ (n:=20) (S:=fun w'=>w'.cell? ⟨Oa,0,none⟩=some (Y (some ⟨go16,0,none⟩) Ja.length Xa)) (ds:=[]) (bz 20 0) (by kernel_rfl) rfl (by kernel_rfl) (bc_ Ma.out 0) (fun hHeld=>?_);refine with_tabW impl_Heap_up.tab3 impl_Heap_up.bits3 (fun HT_ HW_=>?_);generalize w14.drew=w18 at Ka Ma HK HB GG16 HQ19 HQ20 hf16_0 hf16_1 hf17_0 hf17_1 hx16_0 hx16_1 hx17_0 hx17_1 hx383_0 hx383_1 hx384_0 hx384_1 hx386_0 hx386_1 hx387_0 hx387_1 hHeld ⊢;refine pb_ 0 ?_;refine pb_ 2 ?_;refine pb_ 3 ?_;refine pb_ 5 ?_;refine pb_ 6 ?_;refine pb_ 8 ?_;refine pb_ 11 ?_;refine pb_ 13 ?_;refine tb_ 1 rfl rfl hHeld Z25 ?_;refine tb_ 4 rfl rfl hHeld Z25 ?_;refine tb_ 7 rfl rfl hHeld Z25 ?_;refine pb_ 9 ?_;refine tb_ 12 rfl rfl hHeld Z25 ?_;refine pb_ 14 ?_;refine cut_ (a2:=?_) 4 (bz 20 65535) ?_ ?_;rotate_left
         ·intro hCont
          refine two_ (i:=10) (j:=15) (Ni:=some 36) (Nj:=some 41) (bz 20 32767) (bz 20 64511) rfl rfl rfl rfl (two_of HT_.out (by kernel_rfl)) (by decide) (by decide) (fun K hK=>?_) (fun K hK=>?_)
          ·skip
           refine value_ (w1 := ?_) (v := ?_) (by rfl) rfl ?_ ?_; rotate_left 2
           ·go_simp
            constructor
            ·rfl
            ·rfl
           refine hK.out _ _ (hHeld) (fun hHeld=>?_);clear hK K;refine nx_ (N:=some 36) ?_;refine oa_ 15 41 20 65535 HT_ (fun K hK=>?_);refine value_ (w1:=?_) (v:=?_) (by rfl) rfl ?_ ?_;rotate_left 2
           ·go_simp
            constructor
            ·rfl
            ·rfl
           refine hK.out _ _ (hHeld) (fun hHeld => ?_); clear hK K; refine nx_ (N := some 41) ?_; exact norm_ (by rfl) hCont
          ·skip
           refine value_ (w1 := ?_) (v := ?_) (by rfl) rfl ?_ ?_; rotate_left 2
           ·go_simp
            constructor
            ·rfl
            ·rfl
           refine hK.out _ _ (hHeld) (fun hHeld=>?_);clear hK K;refine nx_ (N:=some 41) ?_;refine oa_ 10 36 20 65535 HT_ (fun K hK=>?_);refine value_ (w1:=?_) (v:=?_) (by rfl) rfl ?_ ?_;rotate_left 2
           ·go_simp
            constructor
            ·rfl
            ·rfl
           refine hK.out _ _ (hHeld) (fun hHeld => ?_); clear hK K; refine nx_ (N := some 36) ?_; exact norm_ (by rfl) hCont
         refine pb_ 16 ?_;refine one_ (i:=17) (N:=none) (bz 20 262143) rfl rfl (one_of HT_.out (by kernel_rfl)) (by decide) (fun K hK=>?_);refine skip_ (w1:=?_) (by rfl) rfl ?_ ?_;rotate_left
         ·go_simp
          rfl
         refine hK.out _ _ (((cell_far (p:=⟨go16,_,none⟩) (show Oa≠go16 from Z31) _).trans (((cell_far (p:=⟨go16,_,none⟩) (show Oa≠go16 from Z31) _).trans (hHeld))))) (fun hHeld=>?_);clear hK K;refine pb_ 18 ?_;refine one_ (i:=19) (N:=none) (bz 20 1048575) rfl rfl (one_of HT_.out (by kernel_rfl)) (by decide) (fun K hK=>?_);have hz0_:=hx17_0
         change (World.setCell (World.setCell _ ⟨go16, (x1_1 : Int).toNat * 2, none⟩ _) ⟨go16, (x1_1 : Int).toNat * 2 + 1, none⟩ _).cell? ⟨go16, ((ji8) : Int).toNat * 2, none⟩ = _ at hz0_
         have hz1_ := hx17_1
         change (World.setCell (World.setCell _ ⟨go16, (x1_1 : Int).toNat * 2, none⟩ _) ⟨go16, (x1_1 : Int).toNat * 2 + 1, none⟩ _).cell? ⟨go16, ((ji8) : Int).toNat * 2 + 1, none⟩ = _ at hz1_
         have hy_:=(World.cell?_setCell_other _ _ _ _ Z24).symm.trans hz0_;have hw0_:=hf17_0;have hw1_:=hf17_1;rw [World.frozen?_setCells] at hw0_ hw1_;refine skip_ (w1:=?_) (by rfl) rfl ?_ ?_;rotate_left
         ·go_simp
          rfl
         refine hK.out _ _ (((cell_far (p:=⟨go16,_,none⟩) (show Oa≠go16 from Z31) _).trans (((cell_far (p:=⟨go16,_,none⟩) (show Oa≠go16 from Z31) _).trans (hHeld))))) (fun hHeld=>?_);clear hK K;refine done_ (done_of HT_.out (by kernel_rfl)) ?_
         try go_wp2
         (try simp only [← hl383000_1]); go_roundg k1
         case measure => have := HK1.out; omega
         case rel=>exact ⟨(ji8),(y389),(by first|rfl|(simp;done)|(simp only [← hji8] <;> (first|rfl|simp))|(simp [*];done)),H',⟨by have:=HK1.out;omega⟩,⟨by (try simp only [hl383000_1]);(with_reducible repeat (first|apply Kd.R_alloc|apply Kd.R_drewN|apply Kd.R_drew));exact HQ20.out⟩,⟨by (try simp only [hl383000_1]);refine pk_ ?_;refine blk_far ?_ Z31 _;refine pk_ ?_;refine blk_far ?_ Z31 _;refine pk_ ?_;refine blk_far ?_ Z31 _;refine pk_ ?_;refine blk_far ?_ Z31 _;refine pk_ ?_;exact Ma.out⟩,⟨by repeat (first|(with_reducible first|exact HK.out|apply Kept.alloc|apply Kept.drewN|apply Kept.drew|refine Kept.setCell ?_ HMgo16.out _|refine Kept.setCell ?_ HMgo16.out _|refine Kept.setCell ?_ HMgo16.out _|refine Kept.setCell ?_ HMgo16.out _|refine Kept.setCell ?_ (.inr Jb.out) _)|exact HK.out)⟩,⟨by repeat (first|(with_reducible first|exact HB.out|apply below_alloc|apply pw_below_drewN|apply below_drew1|refine below_set ?_ GB16.out|refine below_set ?_ GB16.out|refine below_set ?_ GB16.out|refine below_set ?_ GB16.out|refine below_set ?_ Ub.out)|exact HB.out)⟩⟩
        ·replace c15 := Bool.eq_false_iff.mpr c15
         subst c15; rw [if_neg (show ¬ (false = true) by decide)] at H; simp only [Option.some.injEq, Prod.mk.injEq] at H; obtain ⟨rfl, rfl⟩ := H
         go_wp2
         go_ret;exact ⟨by first|rfl|(simp [errW_none,errW_some] <;> rfl)|(simp only [← hji8];first|rfl|(simp [errW_none,errW_some] <;> rfl))|(simp [*,errW_none,errW_some] <;> rfl),Z19,pB_ HB.out,by repeat (first|(with_reducible first|exact HK.out|apply Kept.alloc|apply Kept.drewN|apply Kept.drew|refine Kept.setCell ?_ (.inr Jb.out) _)|exact HK.out)⟩
       ·rw [if_neg c10] at H
        exact absurd H (by simp)
      ·rw [if_neg c9] at H
       exact absurd H (by simp)
     ·rw [if_neg c7] at H
      exact absurd H (by simp)
    ·rw [if_neg c6] at H
     exact absurd H (by simp)
   ·rw [if_neg c5] at H
    have c5b0 : decide (0 < x1_1) = false := decide_eq_false c5; clear c5; simp only [Option.some.injEq, Prod.mk.injEq] at H; obtain ⟨rfl, rfl⟩ := H
    try go_wp2
    have n_ := an_ (Kd.R_drew Ka.out) <| an_ (blk_drew Ma.out) <| an_ (Kept.drew HK.out) <| D (below_drew1 HB.out)
    clear Ka Ma HK HB;obtain ⟨Ka,Ma,HK,HB⟩:=n_;refine start_ (n:=17) (S:=fun w'=>True) (ds:=[]) (bz 17 0) (by kernel_rfl) rfl (by kernel_rfl) trivial (fun hHeld=>?_);refine with_tabW impl_Heap_up.tab1 impl_Heap_up.bits1 (fun HT_ HW_=>?_);generalize wr.drew=w21 at Ka Ma HK HB hHeld ⊢;refine pb_ 0 ?_;refine pb_ 1 ?_;refine pb_ 2 ?_;refine ob_ 3 ?_;refine ob_ 4 ?_;refine ob_ 5 ?_;refine ob_ 6 ?_;refine ob_ 7 ?_;refine ob_ 8 ?_;refine ob_ 9 ?_;refine ob_ 10 ?_;refine ob_ 11 ?_;refine ob_ 12 ?_;refine ob_ 13 ?_;refine ob_ 14 ?_;refine ob_ 15 ?_;refine pb_ 16 ?_;refine done_ (done_of HT_.out (by kernel_rfl)) ?_
    try go_wp2
    go_ret;exact ⟨er_,Z19,pB_ HB.out,by repeat (first|(with_reducible first|exact HK.out|apply Kept.alloc|apply Kept.drewN|apply Kept.drew|refine Kept.setCell ?_ (.inr Jb.out) _)|exact HK.out)⟩

/-! ### impl_Heap_remove: function 22 -/
def impl_Heap_remove.f (k : Nat) (l0_0 : List (S32)) (a1 : Int) : Option ((List (S32))) := if 0 ≤ (wrap64 ((l0_0.length : Int) - 1)) then (if (wrap64 ((l0_0.length : Int) - 1)) < (l0_0.length : Int) then (if (wrap64 ((l0_0.length : Int) - 1)) ≤ (l0_0.length : Int) then ((some (l0_0.take ((wrap64 ((l0_0.length : Int) - 1)) : Int).toNat : List (S32))).bind fun y394 => (if a1 < (wrap64 ((l0_0.length : Int) - 1)) then (if 0 ≤ a1 then (if a1 < (y394.length : Int) then ((impl_Heap_up.f k (y394.set (a1 : Int).toNat (⟨(rd_T32 l0_0 (wrap64 ((l0_0.length : Int) - 1))).f0, (rd_T32 l0_0 (wrap64 ((l0_0.length : Int) - 1))).f1⟩ : S32)) a1).bind fun bt398 => ((impl_Heap_down.f k bt398.2 bt398.1).bind fun Xb => (some Xb))) else (none)) else (none)) else (some y394))) else (none)) else (none)) else (none)
set_option maxHeartbeats 8000000 in
set_option maxRecDepth 100000 in
theorem impl_Heap_remove.calls (k : Nat) (P0_0_ : Nat → Prop) (u9000_ : Value) (l0_0 : List (S32)) (a1 : Int) (r : List (S32)) (w0 w : World) (hB : Below w0.heap.size w0 w) (ho0_0 : Kd.R k32 32 w w0.heap.size P0_0_ u9000_ l0_0) (h : impl_Heap_remove.f k l0_0 a1 = some r) :
  Calls Try.prog 22 #[.agg #[u9000_],I L a1] w fun e w'=>∃ v0_:Value,e=.returned (.agg #[v0_])∧Kd.R k32 32 w' w0.heap.size (fun k_=>(P0_0_ k_ ∨ w.heap.size≤k_)) v0_ r∧Below w0.heap.size w0 w'∧Kept w w' (fun k_=>P0_0_ k_):=by
 have hu26 := Try.underlying26
 have hu32 := Try.underlying32
 have Jb := D (show Kd.R k32 32 w w0.heap.size (fun k_ => (P0_0_ k_ ∨ w.heap.size ≤ k_)) u9000_ l0_0 from Kd.R_mono ho0_0 (fun k_ hk => (.inl hk)))
 have HK := D (Kept.refl w (fun k_ => P0_0_ k_))
 have HW0 := D hB.size
 have HB := D hB
 clear hB
 have H:(if 0≤(wrap64 ((l0_0.length:Int) - 1)) then (if (wrap64 ((l0_0.length:Int) - 1)) < (l0_0.length:Int) then (if (wrap64 ((l0_0.length:Int) - 1))≤(l0_0.length:Int) then ((some (l0_0.take ((wrap64 ((l0_0.length:Int) - 1)):Int).toNat:List (S32))).bind fun y394=>(if a1 < (wrap64 ((l0_0.length:Int) - 1)) then (if 0≤a1 then (if a1 < (y394.length:Int) then ((impl_Heap_up.f k (y394.set (a1:Int).toNat (⟨(rd_T32 l0_0 (wrap64 ((l0_0.length:Int) - 1))).f0,(rd_T32 l0_0 (wrap64 ((l0_0.length:Int) - 1))).f1⟩:S32)) a1).bind fun bt398=>((impl_Heap_down.f k bt398.2 bt398.1).bind fun Ub=>(some Ub))) else (none)) else (none)) else (some y394))) else (none)) else (none)) else (none))=some r:=h
 clear h
 obtain ⟨ji3, hji3⟩ : ∃ j_ : Int, (wrap64 ((l0_0.length : Int) - 1)) = j_ := ⟨_, rfl⟩
 replace H:(if 0≤(ji3) then (if (ji3) < (l0_0.length:Int) then (if (ji3)≤(l0_0.length:Int) then ((some (l0_0.take ((ji3):Int).toNat:List (S32))).bind fun y394=>(if a1 < (ji3) then (if 0≤a1 then (if a1 < (y394.length:Int) then ((impl_Heap_up.f k (y394.set (a1:Int).toNat (⟨(rd_T32 l0_0 (ji3)).f0,(rd_T32 l0_0 (ji3)).f1⟩:S32)) a1).bind fun bt398=>((impl_Heap_down.f k bt398.2 bt398.1).bind fun Ub=>(some Ub))) else (none)) else (none)) else (some y394))) else (none)) else (none)) else (none))=some r:=by first|(rw [hji3] at H;exact H)|(simp only [hji3] at H ⊢;exact H)
 have hji3w : (IntKind.i64.wrap ((l0_0.length : Int) - 1)) = ji3 := (i64_w _).trans hji3
 by_cases c4 : 0 ≤ (ji3)
 ·rw [if_pos c4] at H
  have c4b0 : decide (0 ≤ (ji3)) = true := decide_eq_true c4; clear c4
  by_cases c5 : (ji3) < (l0_0.length : Int)
  ·rw [if_pos c5] at H
   have c5b0 : decide ((ji3) < (l0_0.length : Int)) = true := decide_eq_true c5; clear c5
   by_cases c6 : (ji3) ≤ (l0_0.length : Int)
   ·rw [if_pos c6] at H
    have c6b0:=eq_true c6;have c6b1:decide ((ji3)≤(l0_0.length:Int))=true:=decide_eq_true c6;clear c6;obtain ⟨y394,hy394⟩:∃ y_:List (S32),y_=(l0_0.take ((ji3):Int).toNat):=⟨_,rfl⟩
    replace H:(if a1 < (ji3) then (if 0≤a1 then (if a1 < (y394.length:Int) then ((impl_Heap_up.f k (y394.set (a1:Int).toNat (⟨(rd_T32 l0_0 (ji3)).f0,(rd_T32 l0_0 (ji3)).f1⟩:S32)) a1).bind fun bt398=>((impl_Heap_down.f k bt398.2 bt398.1).bind fun Ub=>(some Ub))) else (none)) else (none)) else (some y394))=some r:=by first|(rw [hy394];with_reducible exact H)|(have H2_:=(Option.bind_some _ _).symm.trans H;rw [hy394];with_reducible exact H2_)|(have H2_:=(Option.bind_some _ _).symm.trans H;with_reducible exact H2_)|with_reducible exact H|(rw [hy394];exact H)|exact H
    have Ny394 := D hy394; clear hy394; have HU7 := D H; clear H; obtain ⟨Od, Ua, eo8⟩ := Kd.R_slice Jb.out; subst eo8; go_enter Try.func22, Try.ntmps22
    go_upto_if 23 with (first|((with_reducible refine gate_dst (N:=2) rfl ?_);refine bx_ (N:=2) (cs:=#[Y Od l0_0.length Ua]) (t:=26) ?_;intro Kb hg w9 hbox hb;have n_:=an_ (Kd.R_below (pR_ Jb.out) hb)<|an_ (Kept.below (S:=(fun k_=>P0_0_ k_)) Z11 hb)<|an_ (below_step (pB_ HB.out) hb)<|an_ (hbox)<|an_ ((by rw [hg];exact Z2:w.heap.size≤Kb))<|D (by rw [hg];exact (below_size (pB_ HB.out)):w0.heap.size≤Kb);clear Jb HK HB;obtain ⟨Jb,HK,HB,Ja,Mb,Je⟩:=n_;clear hb hbox hg)|((with_reducible refine gate_dst (N:=4) rfl ?_);refine bx_ (N:=4) (cs:=#[Y none 0 0]) (t:=26) ?_;intro Ob hg w10 hbox hb;have n_:=an_ (Kd.R_below (pR_ Jb.out) hb)<|an_ (blk_below (pk_ Ja.out) hb)<|an_ (Kept.below (S:=(fun k_=>P0_0_ k_)) (by repeat (first|(with_reducible first|exact HK.out|apply Kept.alloc|apply Kept.drewN|apply Kept.drew|refine Kept.setCell ?_ (.inr Mb.out) _)|exact HK.out)) hb)<|an_ (below_step (pB_ HB.out) hb)<|an_ (hbox)<|an_ ((by rw [hg];exact (by first|exact HK.out.1|exact (show Kept w _ (fun k_=>P0_0_ k_) from by repeat (first|(with_reducible first|exact HK.out|apply Kept.alloc|apply Kept.drewN|apply Kept.drew|refine Kept.setCell ?_ (.inr Mb.out) _)|exact HK.out)).1):w.heap.size≤Ob))<|an_ ((by rw [hg];exact (below_size (pB_ HB.out)):w0.heap.size≤Ob))<|an_ (nl_ hg (pk_ Ja.out):Kb≠Ob)<|D (by rw [hg];exact Nat.ne_of_gt (blk_lt (pk_ Ja.out)):Ob≠Kb);clear Jb Ja HK HB;obtain ⟨Jb,Ja,HK,HB,Ma,Xb,Ke,Xc,Oc⟩:=n_;clear hb hbox hg;(try have:=Xc.out);(try have:=Oc.out);have Me:=cells1 Ja.out;have p392:0≤((ji3):Int):=od_ Z22;have q392:(ji3) < (l0_0.length:Int):=od_ Z22;obtain ⟨ad392,e392,hx392_0,hx392_1⟩:=at_T32 (Kd.R_reads' Jb.out).2.2 (ji3) p392 q392;cases e392;replace p392:=eq_true p392;replace q392:=eq_true q392)|((with_reducible refine gate_dst (N:=6) rfl ?_);refine bx_ (N:=6) (cs:=#[I L 0,I L 0]) (t:=32) ?_;intro Xa hg w13 hbox hb;have n_:=an_ (Kd.R_below (Kd.R_elderB (pR_ Jb.out) Xa (Nat.le_of_eq hg.symm)) hb)<|an_ (blk_below (pk_ Ja.out) hb)<|an_ (blk_below (pk_ Ma.out) hb)<|an_ (Kept.below (S:=(fun k_=>P0_0_ k_)) (by repeat (first|(with_reducible first|exact HK.out|apply Kept.alloc|apply Kept.drewN|apply Kept.drew|refine Kept.setCell ?_ (.inr Mb.out) _|refine Kept.setCell ?_ (.inr Xb.out) _)|exact HK.out)) hb)<|an_ (below_step (pB_ HB.out) hb)<|an_ (hbox)<|an_ ((by rw [hg];exact (by first|exact HK.out.1|exact (show Kept w _ (fun k_=>P0_0_ k_) from by repeat (first|(with_reducible first|exact HK.out|apply Kept.alloc|apply Kept.drewN|apply Kept.drew|refine Kept.setCell ?_ (.inr Mb.out) _|refine Kept.setCell ?_ (.inr Xb.out) _)|exact HK.out)).1):w.heap.size≤Xa))<|an_ ((by rw [hg];exact (below_size (pB_ HB.out)):w0.heap.size≤Xa))<|an_ (nl_ hg (pk_ Ja.out):Kb≠Xa)<|an_ (ng_ hg (pk_ Ja.out):Xa≠Kb)<|an_ (nl_ hg (pk_ Ma.out):Ob≠Xa)<|D (by rw [hg];exact Nat.ne_of_gt (blk_lt (pk_ Ma.out)):Xa≠Ob);clear Jb Ja Ma HK HB;obtain ⟨Jb,Ja,Ma,HK,HB,Oa,Jc,Ue,Kc,Uc,Mc,Jd⟩:=n_;clear hb hbox hg;(try have:=Uc.out);(try have:=Kc.out);(try have:=Jd.out);(try have:=Mc.out);have Xe:=cells2 Oa.out)|((with_reducible refine gate_store (t:=32) (p:=6) rfl ?_);refine store_event (t:=32) (p:=6) (v:=?vo_w17) (w1:=((w13.setCell ⟨Xa,0,none⟩ (I L ((rd_T32 l0_0 (ji3)).f0))).setCell ⟨Xa,1,none⟩ (I L ((rd_T32 l0_0 (ji3)).f1)))) ?hg ?ho ?hn ?hr ?_;(case ho=>rfl);(case hg=>rfl);(case hn=>rfl);(case hr=>first|(go_simp;done)|(go_simp;rfl));intro w17 hw;have n0_:Aside0 (Kd.R k32 32 w17 w0.heap.size (fun k_=>(P0_0_ k_ ∨ w.heap.size≤k_)∧k_≠Xa) (Y (some ad392) l0_0.length Ua) l0_0):=⟨(by rw [hw];exact (rM_ (Kd.R_mono Jb.out (fun k_ hk=>(⟨hk,hk.2⟩:_∧k_≠Xa))) (fun _ hk=>⟨hk.1.1,hk.1.2⟩)))⟩;have n1_:Aside0 (w17.heap[Kb]?=some (.cells #[Y (some ad392) l0_0.length Ua] 26 (0,0))):=⟨(by rw [hw];exact (by exact pP_ Ja.out))⟩;have n2_:Aside0 (w17.heap[Ob]?=some (.cells #[Y none 0 0] 26 (0,0))):=⟨(by rw [hw];exact (by exact pP_ Ma.out))⟩;have n3_:Aside0 (w17.heap[Xa]?=some (.cells #[I L ((rd_T32 l0_0 (ji3)).f0),I L ((rd_T32 l0_0 (ji3)).f1)] 32 (0,0))):=⟨(by rw [hw];exact (by exact pP_ Oa.out))⟩;have n4_:Aside0 (Kept w w17 (fun k_=>P0_0_ k_)):=⟨(by rw [hw];exact Z0)⟩;have n5_:Aside0 (Below w0.heap.size w0 w17):=⟨(by rw [hw];exact (pB_ HB.out))⟩;clear hw;clear Jb;clear Ja;clear Ma;clear Oa;clear HK;clear HB;have Jb:=n0_;have Ja:=n1_;have Ma:=n2_;have Oa:=n3_;have HK:=n4_;have HB:=n5_;clear n0_ n1_ n2_ n3_ n4_ n5_;have Of:=cells1 Ja.out;have q19:((ji3):Int)≤((l0_0.length:Int):Int):=od_ Z22;obtain ⟨i019,hi019,_,hsz19,_⟩:=info_parts info32;have hcut19:=cut_to (P:=Try.prog) 24 32 .i64 Try.underlying24 hi019 (some ad392) l0_0.length Ua (ji3) (od_ Z22) q19 (Kd.R_reads' Jb.out).2.1;have hr19:=Kd.R_take (m:=((ji3):Int).toNat) Jb.out (by omega);have hy19:y394.length=((ji3):Int).toNat:=(by rw [Ny394.out,List.length_take];omega);rw [← Ny394.out] at hr19;rw [← hy19] at hr19 hcut19;clear hy19 hi019 hsz19 Jb;have Ka:=D hr19;clear hr19;replace q19:=eq_true q19))
    refine relet_ (F:=fun w20=>Aside0 (Kd.R k32 32 w20 w0.heap.size (fun k_=>(P0_0_ k_ ∨ w.heap.size≤k_)∧k_≠Xa) (Y (some ad392) y394.length Ua) y394)∧Aside0 (w20.heap[Kb]?=some (.cells #[Y (some ad392) y394.length Ua] 26 (0,0)))∧Aside0 (w20.heap[Ob]?=some (.cells #[Y none 0 0] 26 (0,0)))∧Aside0 (w20.heap[Xa]?=some (.cells #[I L ((rd_T32 l0_0 (ji3)).f0),I L ((rd_T32 l0_0 (ji3)).f1)] 32 (0,0)))∧Aside0 (Kept w w20 (fun k_=>P0_0_ k_))∧Aside0 (Below w0.heap.size w0 w20)) ⟨⟨rM_ (Kd.R_types Ka.out Ja.out (by decide)) (fun _ hk=>⟨hk.1.1,hk.1.2⟩)⟩,⟨pP_ Ja.out⟩,⟨pP_ Ma.out⟩,⟨pP_ Oa.out⟩,⟨by repeat (first|(with_reducible first|exact HK.out|apply Kept.alloc|apply Kept.drewN|apply Kept.drew|refine Kept.setCell ?_ (.inr Mb.out) _|refine Kept.setCell ?_ (.inr Xb.out) _|refine Kept.setCell ?_ (.inr Jc.out) _)|exact HK.out)⟩,⟨pB_ HB.out⟩⟩ ?_;(try clear Ka);(try clear Ja);(try clear Ma);(try clear Oa);(try clear HK);(try clear HB);rintro w20 ⟨Ka,Ja,Ma,Oa,HK,HB⟩;have H:=HU7.out;clear HU7
    by_cases c21 : a1 < (ji3)
    ·rw [if_pos c21] at H
     have c21b0:decide (a1 < (ji3))=true:=decide_eq_true c21;clear c21;refine rw_ c21b0 ?_
     by_cases c22 : 0 ≤ a1
     ·rw [if_pos c22] at H
      have c22b0 : decide (0 ≤ a1) = true := decide_eq_true c22; clear c22
      by_cases c23 : a1 < (y394.length : Int)
      ·rw [if_pos c23] at H
       have c23b0:decide (a1 < (y394.length:Int))=true:=decide_eq_true c23;clear c23;obtain ⟨y397,hy397⟩:∃ y_:List (S32),y_=(y394.set (a1:Int).toNat (⟨(rd_T32 l0_0 (ji3)).f0,(rd_T32 l0_0 (ji3)).f1⟩:S32)):=⟨_,rfl⟩
       replace H:((impl_Heap_up.f k y397 a1).bind fun bt398=>((impl_Heap_down.f k bt398.2 bt398.1).bind fun Ub=>(some Ub)))=some r:=by first|(rw [hy397];with_reducible exact H)|(have H2_:=(Option.bind_some _ _).symm.trans H;rw [hy397];with_reducible exact H2_)|(have H2_:=(Option.bind_some _ _).symm.trans H;with_reducible exact H2_)|with_reducible exact H|(rw [hy397];exact H)|exact H
       have Ny397:=D hy397;clear hy397;obtain ⟨⟨Md,Ud⟩,A250,H⟩:=bs_.mp H;(try dsimp only at H);have A25:=D A250;clear A250;obtain ⟨Ub,A260,H⟩:=bs_.mp H;(try dsimp only at H);have A26:=D A260;clear A260;obtain rfl:=Option.some.inj H;(try have:=Xc.out);(try have:=Oc.out);(try have:=Kc.out);(try have:=Uc.out);have Xf:=cells1 Ja.out;(try have:=Jd.out);(try have:=Mc.out);have Kg:=cells2 Oa.out;have p24:0≤(a1:Int):=od_ Z22;have q24:(a1:Int) < ((y394.length:Int):Int):=od_ Z22;obtain ⟨go24,Xg,eo24,Xd,gl24,cl24,HG24⟩:=Kd.R_form Ka.out (by omega);(first|cases eo24|(injection eo24 with ea_ en_ ec_;(first|subst ea_|(injection ea_ with ea_;subst ea_));subst ec_;clear en_));have GB24:=D Xd;have GG24:=D HG24;clear Xd gl24 HG24;have HMgo24:=D (show (P0_0_ go24 ∨ w.heap.size≤go24) from (Ka.out.1 _ rfl).1);(first|simp only [add_plain] at hx392_0|skip);(first|simp only [add_plain] at hx392_1|skip);obtain ⟨ce24,hcl24,hM24,hcc24,hfr24⟩:=Kd.R_elem Ka.out z32 (a1:Int) p24 q24;obtain rfl:=k32_openM hM24;have hx24_0:w20.cell? ⟨go24,(a1:Int).toNat * 2,none⟩=some (I L ((rd_T32 y394 a1).f0)):=hcc24 0 _ rfl;have hx24_1:w20.cell? ⟨go24,(a1:Int).toNat * 2 + 1,none⟩=some (I L ((rd_T32 y394 a1).f1)):=hcc24 1 _ rfl;have hf24_0:w20.frozen? ⟨go24,(a1:Int).toNat * 2,none⟩=false:=hfr24 0;have hf24_1:w20.frozen? ⟨go24,(a1:Int).toNat * 2 + 1,none⟩=false:=hfr24 1;clear hcl24 hcc24 hfr24 hM24;replace p24:=eq_true p24;replace q24:=eq_true q24;have HX32:=D (show Kd.R k32 32 w20 w0.heap.size (fun k_=>(P0_0_ k_ ∨ w.heap.size≤k_)∧k_≠Xa) (Y (some ⟨go24,0,none⟩) y394.length Ua) y394 from (pR_ Ka.out));obtain ⟨ce32,hcl32,hM32,hcc32,hfr32⟩:=Kd.R_elem HX32.out z32 (a1:Int) (od_ Z22) (by have h_:(a1:Int) < ((y394.length:Int):Int):=od_ Z22;first|exact h_|(have e_:=(Kd.R_reads' Ka.out).1;omega)|simpa using h_);obtain rfl:=k32_openM hM32;have HP32:=Kd.R_seg HX32.out (a1:Int) (od_ Z22) (by have h_:(a1:Int) < ((y394.length:Int):Int):=od_ Z22;first|exact h_|(have e_:=(Kd.R_reads' Ka.out).1;omega)|simpa using h_) (seg:=[I L ((rd_T32 l0_0 (ji3)).f0),I L ((rd_T32 l0_0 (ji3)).f1)]) (j:=0) hcl32 hcc32 (show 2≤2 from by decide) (x':=(⟨(rd_T32 l0_0 (ji3)).f0,(rd_T32 l0_0 (ji3)).f1⟩:S32)) (k32_mkM _ _ _ (⟨(rd_T32 l0_0 (ji3)).f0,(rd_T32 l0_0 (ji3)).f1⟩:S32) ) (fun _ hk=>hk);have hx32_0:=hcc32 0 _ rfl;(try simp only [show (k32).sz=2 from rfl,Nat.mul_one,Nat.add_zero] at hx32_0);have hf32_0:=hfr32 0;(try simp only [show (k32).sz=2 from rfl,Nat.mul_one,Nat.add_zero] at hf32_0);have hx32_1:=hcc32 1 _ rfl;(try simp only [show (k32).sz=2 from rfl,Nat.mul_one,Nat.add_zero] at hx32_1);have hf32_1:=hfr32 1;(try simp only [show (k32).sz=2 from rfl,Nat.mul_one,Nat.add_zero] at hf32_1);clear hcl32 hcc32 hfr32 hM32
       try go_wp2_with (first|((with_reducible refine gate_store (t:=32) (p:=28) rfl ?_);refine store_event (t:=32) (p:=28) (v:=?vo_w33) (w1:=((w20.setCell ⟨go24,(a1:Int).toNat * 2,none⟩ (I L ((rd_T32 l0_0 (ji3)).f0))).setCell ⟨go24,(a1:Int).toNat * 2 + 1,none⟩ (I L ((rd_T32 l0_0 (ji3)).f1)))) ?hg ?ho ?hn ?hr ?_;(case ho=>rfl);(case hg=>rfl);(case hn=>rfl);(case hr=>first|(go_simp;done)|(go_simp;rfl));intro w33 hw;have hg:w20.grownBy w33 (some go24):=(by rw [hw];exact HP32.2);have hp_:Kd.R k32 32 w33 w0.heap.size (fun k_=>(P0_0_ k_ ∨ w.heap.size≤k_)∧k_≠Xa) (Y (some ⟨go24,0,none⟩) y394.length Ua) y397:=(by rw [hw,Ny397.out];exact HP32.1);clear HP32;have n_:=an_ (hp_)<|an_ (blk_grown (pk_ Ja.out) hg (Kd.R_ne Ka.out Ja.out (by decide)))<|an_ (blk_grown (pk_ Ma.out) hg (Kd.R_ne Ka.out Ma.out (by decide)))<|an_ (blk_grown (pk_ Oa.out) hg (Kd.R_away Ka.out (fun _ hk=>hk.2)))<|an_ ((by rw [hw];exact below_set (below_set (HB.out) GB24.out) GB24.out:Below w0.heap.size w0 w33))<|D (Kept.of_grown (S:=(fun k_=>P0_0_ k_)) hg Z0 (fun k_ e_=>(Ka.out.1 k_ e_).1));clear Ka Ja Ma Oa HB HK;obtain ⟨Ka,Ja,Ma,Oa,HB,HK⟩:=n_;clear hg hw hp_))
       have n_ := an_ (Kd.R_drew Ka.out) <| an_ (blk_drew Ja.out) <| an_ (blk_drew Ma.out) <| an_ (blk_drew Oa.out) <| an_ (Kept.drew HK.out) <| D (below_drew1 HB.out)
       clear Ka Ja Ma Oa HK HB;obtain ⟨Ka,Ja,Ma,Oa,HK,HB⟩:=n_;refine start_ (n:=5) (S:=fun w'=>w'.cell? ⟨Kb,0,none⟩=some (Y (some ⟨go24,0,none⟩) y394.length Ua)) (ds:=[]) (bz 5 0) (by kernel_rfl) rfl (by kernel_rfl) (bc_ Ja.out 0) (fun hHeld=>?_);generalize w33.drew=w34 at Ka Ja Ma Oa HK HB hHeld ⊢;refine px_ (i:=2) (N:=some 31) (bz 5 4) (by kernel_rfl) ?_;refine tx_ (i:=0) (N:=some 29) (bz 5 5) rfl rfl (by kernel_rfl) hHeld Z25 ?_;refine tx_ (i:=1) (N:=some 30) (bz 5 7) rfl rfl (by kernel_rfl) hHeld Z25 ?_;refine one_ (i:=3) (N:=some 32) (bz 5 15) rfl rfl (by kernel_rfl) (by decide) (fun K hK=>?_);refine goes_ Try.func32 (by kernel_rfl) rfl #[.agg #[Y (some ⟨go24,0,none⟩) y394.length Ua],I L a1] (by rfl) rfl rfl Z9 ?_;with_reducible refine (impl_Heap_up.calls k (fun k_=>some k_=(Y (some ⟨go24,0,none⟩) y394.length Ua:Value).ownBlock) (Y (some ⟨go24,0,none⟩) y394.length Ua) y397 a1 Md Ud w0 _ ?side1 ?side2 A25.out).mono ?_
       (case side1 => exact pB_ HB.out); (case side2 => exact Kd.R_tight rfl Ka.out); rintro e w35 ⟨rfl, hy0, hb, hkp⟩; refine ⟨_, rfl, ?_⟩
       have n_:=an_ (Kd.R_reok rfl hy0 (fun k_ e_=>Ka.out.1 k_ e_))<|an_ (blk_kept (pk_ Ja.out) hkp (fun hs_=>(fun e_=>(Kd.R_ne Ka.out Ja.out (by decide)) e_) hs_))<|an_ (blk_kept (pk_ Ma.out) hkp (fun hs_=>(fun e_=>(Kd.R_ne Ka.out Ma.out (by decide)) e_) hs_))<|an_ (blk_kept (pk_ Oa.out) hkp (fun hs_=>(fun e_=>(Kd.R_away Ka.out (fun _ hk=>hk.2)) e_) hs_))<|an_ (Kept.then_ (S:=(fun k_=>P0_0_ k_)) Z0 hkp (fun k_ hs_=>(fun e_=>(Ka.out.1 k_ e_.symm).1) hs_))<|D (hb)
       clear Ka Ja Ma Oa HK HB;obtain ⟨Ka,Ja,Ma,Oa,HK,HB⟩:=n_;(try clear hkp);(try clear hy0);refine hK.out _ _ (bc_ Ja.out 0) (fun hHeld=>?_);clear hK K;refine nx_ (N:=some 32) ?_;refine one_ (i:=4) (N:=some 33) (bz 5 31) rfl rfl (by kernel_rfl) (by decide) (fun K hK=>?_);refine goes_ Try.func31 (by kernel_rfl) rfl #[.agg #[Y (some ⟨go24,0,none⟩) y394.length Ua],I L Md] (by rfl) rfl rfl Z9 ?_;with_reducible refine (impl_Heap_down.calls k (fun k_=>some k_=(Y (some ⟨go24,0,none⟩) y394.length Ua:Value).ownBlock) (Y (some ⟨go24,0,none⟩) y394.length Ua) Ud Md Ub w0 _ ?side1 ?side2 A26.out).mono ?_
       (case side1 => exact pB_ HB.out); (case side2 => exact Kd.R_tight rfl Ka.out); rintro e w36 ⟨rfl, hy0, hb, hkp⟩; refine ⟨_, rfl, ?_⟩
       have n_:=an_ (Kd.R_reok rfl hy0 (fun k_ e_=>Ka.out.1 k_ e_))<|an_ (blk_kept (pk_ Ja.out) hkp (fun hs_=>(fun e_=>(Kd.R_ne Ka.out Ja.out (by decide)) e_) hs_))<|an_ (blk_kept (pk_ Ma.out) hkp (fun hs_=>(fun e_=>(Kd.R_ne Ka.out Ma.out (by decide)) e_) hs_))<|an_ (blk_kept (pk_ Oa.out) hkp (fun hs_=>(fun e_=>(Kd.R_away Ka.out (fun _ hk=>hk.2)) e_) hs_))<|an_ (Kept.then_ (S:=(fun k_=>P0_0_ k_)) Z0 hkp (fun k_ hs_=>(fun e_=>(Ka.out.1 k_ e_.symm).1) hs_))<|D (hb)
       clear Ka Ja Ma Oa HK HB;obtain ⟨Ka,Ja,Ma,Oa,HK,HB⟩:=n_;(try clear hkp);(try clear hy0);refine hK.out _ _ (bc_ Ja.out 0) (fun hHeld=>?_);clear hK K;refine nx_ (N:=some 33) ?_;refine done_ (by kernel_rfl) ?_;have Jh:=cells1 Ja.out;have Mh:=cells1 Ma.out
       try go_wp2
       refine bodyPost_ret (results_cell_row rfl _ _ Ob 26 #[Y (some ⟨go24,0,none⟩) y394.length Ua] (0,0) _ rfl Z12 Try.underlying26 rfl (by kernel_rfl)) rfl ?_;exact ⟨_,by first|rfl|(simp [errW_none,errW_some] <;> rfl)|(simp only [← hji3];first|rfl|(simp [errW_none,errW_some] <;> rfl))|(simp [*,errW_none,errW_some] <;> rfl),by (with_reducible repeat (first|apply Kd.R_alloc|apply Kd.R_drewN|apply Kd.R_drew));exact Kd.R_mono (fr_ (Kd.R_types Ka.out Ma.out (by decide)) 0 (Y (some ⟨go24,0,none⟩) y394.length Ua)) (fun _ hk=>hk.1.1),pB_ HB.out,by repeat (first|(with_reducible first|exact HK.out|apply Kept.alloc|apply Kept.drewN|apply Kept.drew|refine Kept.setCell ?_ (.inr Mb.out) _|refine Kept.setCell ?_ (.inr Xb.out) _|refine Kept.setCell ?_ (.inr Jc.out) _)|exact HK.out)⟩
      ·rw [if_neg c23] at H
       exact absurd H (by simp)
     ·rw [if_neg c22] at H
      exact absurd H (by simp)
    ·rw [if_neg c21] at H
     have c21b0:decide (a1 < (ji3))=false:=decide_eq_false c21;clear c21;refine rw_ c21b0 ?_;obtain rfl:=Option.some.inj H;(try have:=Xc.out);(try have:=Oc.out);(try have:=Kc.out);(try have:=Uc.out);have Uh:=cells1 Ja.out;(try have:=Mc.out);(try have:=Jd.out);have Ji:=cells1 Ma.out
     go_wp2
     refine bodyPost_ret (results_cell_row rfl _ _ Ob 26 #[Y (some ad392) y394.length Ua] (0,0) _ rfl Z12 Try.underlying26 rfl (by kernel_rfl)) rfl ?_;exact ⟨_,by first|rfl|(simp [errW_none,errW_some] <;> rfl)|(simp only [← hji3];first|rfl|(simp [errW_none,errW_some] <;> rfl))|(simp [*,errW_none,errW_some] <;> rfl),by (with_reducible repeat (first|apply Kd.R_alloc|apply Kd.R_drewN|apply Kd.R_drew));exact Kd.R_mono (fr_ (Kd.R_types Ka.out Ma.out (by decide)) 0 (Y (some ad392) y394.length Ua)) (fun _ hk=>hk.1.1),pB_ HB.out,by repeat (first|(with_reducible first|exact HK.out|apply Kept.alloc|apply Kept.drewN|apply Kept.drew|refine Kept.setCell ?_ (.inr Mb.out) _|refine Kept.setCell ?_ (.inr Xb.out) _|refine Kept.setCell ?_ (.inr Jc.out) _)|exact HK.out)⟩
   ·rw [if_neg c6] at H
    exact absurd H (by simp)
  ·rw [if_neg c5] at H
   exact absurd H (by simp)
 ·rw [if_neg c4] at H
  exact absurd H (by simp)

end Go.Proofs.Ytcindcakncngnaa.PFnHeapSorts
