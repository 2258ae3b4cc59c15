-- by a program of this session's, over the kit's words
import Derived.Test.YtcdangcjbijfkabPZFnExactLinePut
import Derived.Test.YtcdangcjbijfkabPFnExactLinePutx0
import Derived.Test.YtcdangcjbijfkabPFnExactLinePutx5
namespace Go.Proofs.Ytcdangcjbijfkab.PFnExactLinePut
open Go.RowKit Go.Proofs.YtcdangcjbijfkabW.PrintWords Go.Proofs.YtcdangcjbijfkabW.PrintLast Go.Proofs.YtcdangcjbijfkabW.PrintMore Go.Proofs.YtcdangcjbijfkabV Go.Proofs.Ytcdangcjbijfkab.ZFnExactLinePut
attribute [local go_sem] max2_int min2_int max_two min_two max_three min_three max_four min_four   -- for this text's walks alone
set_option linter.unusedVariables false
set_option linter.unusedSimpArgs false

/-! ### slices_Grow_impl_Job_impl_Job: function 36 -/
def slices_Grow_impl_Job_impl_Job.f  (a1 : Int) : Option ((List (S38))) := if a1 < 0 then (none) else (if (wrap64 (a1)) > 0 then (if 0 ≤ (wrap64 (a1)) then (if ([] : List (S38)).length + (wrap64 (a1) : Int).toNat < 4398046511104 then ((some (([] : List (S38)) ++ List.replicate (wrap64 (a1) : Int).toNat z38 : List (S38))).bind fun y210 => (if 0 ≤ (y210.length : Int) then (some (y210.take (0 : Int).toNat)) else (none))) else (none)) else (none)) else (some ([] : List (S38))))
set_option maxHeartbeats 8000000 in
set_option maxRecDepth 100000 in
theorem slices_Grow_impl_Job_impl_Job.calls  (a1 : Int) (r : List (S38)) (w : World) (h : slices_Grow_impl_Job_impl_Job.f a1 = some r) :
  Calls Try.prog 36 #[.slice none 0 0, .int .i64 a1] w fun e w' => ∃ v0_ : Value, e = .returned (v0_) ∧ Kd.R k38 38 w' w.heap.size (fun _ => True) v0_ r ∧ Below w.heap.size w w' := by
 have HB := Aside0.mk (Below.refl w.heap.size w)
 have H:(if a1 < 0 then (none) else (if (wrap64 (a1)) > 0 then (if 0≤(wrap64 (a1)) then (if ([]:List (S38)).length + (wrap64 (a1):Int).toNat < 4398046511104 then ((some (([]:List (S38)) ++ List.replicate (wrap64 (a1):Int).toNat z38:List (S38))).bind fun y210=>(if 0≤(y210.length:Int) then (some (y210.take (0:Int).toNat)) else (none))) else (none)) else (none)) else (some ([]:List (S38)))))=some r:=h
 clear h
 by_cases c3 : a1 < 0
 ·rw [if_pos c3] at H
  exact absurd H (by simp)
 ·rw [if_neg c3] at H
  have c3b0 : decide (a1 < 0) = false := decide_eq_false c3; clear c3
  by_cases c4 : (wrap64 (a1)) > 0
  ·rw [if_pos c4] at H
   have c4b0 : decide (0 < (wrap64 (a1))) = true := decide_eq_true c4; clear c4; obtain ⟨ji5, hji5⟩ : ∃ j_ : Int, (wrap64 (a1)) = j_ := ⟨_, rfl⟩
   replace H:(if 0≤(ji5) then (if ([]:List (S38)).length + (ji5:Int).toNat < 4398046511104 then ((some (([]:List (S38)) ++ List.replicate (ji5:Int).toNat z38:List (S38))).bind fun y210=>(if 0≤(y210.length:Int) then (some (y210.take (0:Int).toNat)) else (none))) else (none)) else (none))=some r:=by first|(rw [hji5] at H;exact H)|(simp only [hji5] at H ⊢;exact H)
   (try rw [hji5] at c4b0); have hji5w : (IntKind.i64.wrap (a1)) = ji5 := (i64_w _).trans hji5
   by_cases c6 : 0 ≤ (ji5)
   ·rw [if_pos c6] at H
    have c6b0 := eq_true c6; have c6b1 : decide (0 ≤ (ji5)) = true := decide_eq_true c6; clear c6
    by_cases c7 : ([] : List (S38)).length + (ji5 : Int).toNat < 4398046511104
    ·rw [if_pos c7] at H
     have LMc7 := Aside0.mk c7; clear c7; obtain ⟨y210, hy210⟩ : ∃ y_ : List (S38), y_ = (([] : List (S38)) ++ List.replicate (ji5 : Int).toNat z38) := ⟨_, rfl⟩
     replace H:(if 0≤(y210.length:Int) then (some (y210.take (0:Int).toNat)) else (none))=some r:=by first|(rw [hy210];with_reducible exact H)|(have H2_:=(Option.bind_some _ _).symm.trans H;rw [hy210];with_reducible exact H2_)|(have H2_:=(Option.bind_some _ _).symm.trans H;with_reducible exact H2_)|with_reducible exact H|(rw [hy210];exact H)|exact H
     have Ny210 := Aside0.mk hy210; clear hy210
     by_cases c8 : 0 ≤ (y210.length : Int)
     ·rw [if_pos c8] at H
      have c8b0:=eq_true c8;have c8b1:decide (0≤(y210.length:Int))=true:=decide_eq_true c8;clear c8;obtain ⟨y213,hy213⟩:∃ y_:List (S38),y_=(y210.take (0:Int).toNat):=⟨_,rfl⟩
      replace H:(some y213)=some r:=by first|(rw [hy213];with_reducible exact H)|(have H2_:=(Option.bind_some _ _).symm.trans H;rw [hy213];with_reducible exact H2_)|(have H2_:=(Option.bind_some _ _).symm.trans H;with_reducible exact H2_)|with_reducible exact H|(rw [hy213];exact H)|exact H
      have Ny213 := Aside0.mk hy213; clear hy213; obtain rfl := Option.some.inj H; go_enter Try.func36, Try.ntmps36
      go_wp2_with (first|(at_builtin;refine Kd.R_append_zeros k38 (w0:=w) w.heap.size rfl (.tmp 20) (.tmp 21) 30 3 38 (.agg #[(.int .i64 0),(.int .i64 0),(.int .i64 0),(.int .i64 0)]) 32 rfl Try.underlying30 Try.underlying3 info38 rfl (by decide) (by omega) (.slice none 0 0) ([]:List (S38)) z38 (ji5:Int) (fun _=>True) rfl rfl (k38_mkM _ _ _ z38 ) ?aF ?aO (of_decide_eq_true Z27) ?aB ?aS ?aL ?_;(case aB=>exact (pB_ HB.out));(case aF=>exact (fun _ _=>trivial));(case aO=>exact ((Kd.R_nil _ _ _ _ (fun _=>True))));(case aS=>exact (below_size (pB_ HB.out)));(case aL=>have:=LMc7.out;omega);intro v211 w9 ho hb hg hat;rw [← Ny210.out] at ho;have n0_:=Aside0.mk (hb);have n1_:=Aside0.mk (ho);clear HB;have HB:=n0_;have HO212:=n1_;clear n0_ n1_;clear ho hb hg hat;obtain ⟨Ao10,co10,eo10⟩:=Kd.R_slice HO212.out;subst eo10;have q11:(0:Int)≤((y210.length:Int):Int):=of_decide_eq_true Z27;obtain ⟨i011,hi011,_,hsz11,_⟩:=info_parts info38;have hcut11:=cut_to (P:=Try.prog) 30 38 .i64 Try.underlying30 hi011 Ao10 y210.length co10 0 (by omega) q11 (Kd.R_reads' HO212.out).2.1;have hr11:=Kd.R_take (m:=(0:Int).toNat) HO212.out (by omega);have hy11:y213.length=(0:Int).toNat:=(by rw [Ny213.out,List.length_take];omega);rw [← Ny213.out] at hr11;rw [← hy11] at hr11 hcut11;clear hy11 hi011 hsz11 HO212;have HO215:=Aside0.mk hr11;clear hr11;replace q11:=eq_true q11))
      go_ret;exact ⟨_,by first|rfl|(simp [errW_none,errW_some] <;> rfl)|(simp only [← hji5];first|rfl|(simp [errW_none,errW_some] <;> rfl))|(simp [*,errW_none,errW_some] <;> rfl),by (with_reducible repeat (first|apply Kd.R_alloc|apply Kd.R_drewN|apply Kd.R_drew));exact HO215.out,by repeat (first|(with_reducible first|exact HB.out|apply below_alloc|apply pw_below_drewN|apply below_drew1)|exact HB.out)⟩
     ·rw [if_neg c8] at H
      exact absurd H (by simp)
    ·rw [if_neg c7] at H
     exact absurd H (by simp)
   ·rw [if_neg c6] at H
    exact absurd H (by simp)
  ·rw [if_neg c4] at H
   have c4b0 : decide (0 < (wrap64 (a1))) = false := decide_eq_false c4; clear c4; obtain rfl := Option.some.inj H; go_enter Try.func36, Try.ntmps36
   go_wp2
   go_ret;exact ⟨_,by first|rfl|(simp [errW_none,errW_some] <;> rfl)|(simp [*,errW_none,errW_some] <;> rfl),by first|exact Kd.R_nil _ _ _ _ _|exact Kd.N_nil _ _ _ _ _|exact Kd.V_nil _ _ _ _ _|exact Kd.Q_nil _ _ _ _ _|exact Kd.S_nil _ _ _ _ _,by repeat (first|(with_reducible first|exact HB.out|apply below_alloc|apply pw_below_drewN|apply below_drew1)|exact HB.out)⟩

/-! ### slices_Concat_impl_Job_impl_Job: function 33 -/
mutual
def slices_Concat_impl_Job_impl_Job.l0 : Nat → List (List (S38)) → Int → List (List (S38)) → Int → Int → Option ((List (S38)))
 | 0, _, _, _, _, _ => none
 | k + 1,x0,x3,x9,x10,x11=>if x11 < x10 then (if 0≤x11 then (if x11 < (x9.length:Int) then (if (wrap64 (x3 + ((rd_L5 x9 x11).length:Int))) < 0 then (none) else (slices_Concat_impl_Job_impl_Job.l0 k x0 (wrap64 (x3 + ((rd_L5 x9 x11).length:Int))) x9 x10 (wrap64 (x11 + 1)))) else (none)) else (none)) else ((slices_Grow_impl_Job_impl_Job.f x3).bind fun t217=>(slices_Concat_impl_Job_impl_Job.l1 k t217 x0 (x0.length:Int) 0))
def slices_Concat_impl_Job_impl_Job.l1 : Nat → List (S38) → List (List (S38)) → Int → Int → Option ((List (S38)))
 | 0, _, _, _, _ => none
 | k + 1,x6,x25,x26,x27=>if x27 < x26 then (if 0≤x27 then (if x27 < (x25.length:Int) then (if x6.length + (rd_L5 x25 x27).length < 4398046511104 then (slices_Concat_impl_Job_impl_Job.l1 k (x6 ++ (rd_L5 x25 x27)) x25 x26 (wrap64 (x27 + 1))) else (none)) else (none)) else (none)) else (some x6)
end
def slices_Concat_impl_Job_impl_Job.f (k : Nat) (l0 : List (List (S38))) : Option ((List (S38))) := slices_Concat_impl_Job_impl_Job.l0 k l0 0 l0 (l0.length : Int) 0
set_option maxHeartbeats 8000000 in
set_option maxRecDepth 100000 in
theorem slices_Concat_impl_Job_impl_Job.calls (k : Nat) (A0 : Option Addr) (c0 : Nat) (l0 : List (List (S38))) (r : List (S38)) (w : World) (hr0 : Kd.C (Kd.slice 38 k38) w A0 l0.length l0) (hc0 : l0.length ≤ c0) (h : slices_Concat_impl_Job_impl_Job.f k l0 = some r) :
  Calls Try.prog 33 #[.slice A0 l0.length c0] w fun e w' => ∃ v0_ : Value, e = .returned (v0_) ∧ Kd.R k38 38 w' w.heap.size (fun _ => True) v0_ r ∧ Below w.heap.size w w' := by
 have HR0 := Aside0.mk hr0
 have HC0 := Aside0.mk hc0
 clear hr0 hc0
 have HB := Aside0.mk (Below.refl w.heap.size w)
 have H : (slices_Concat_impl_Job_impl_Job.l0 k l0 0 l0 (l0.length : Int) 0) = some r := h
 clear h
 have H' := Aside0.mk H
 clear H
 go_enter Try.func33, Try.ntmps33
 go_wp2
 go_loopg [3,11] k (fun kq v3 v11 w'=>∃ (x3_1:Int) (x11_1:Int),v3=.int .i64 x3_1∧v11=.int .i64 x11_1∧Aside0 (slices_Concat_impl_Job_impl_Job.l0 kq l0 x3_1 l0 (l0.length:Int) x11_1=some r)∧Aside0 (kq≤k)∧Aside0 (Below w.heap.size w w'))
 case atStart => exact ⟨(0), (0), Z28, Z28, H', ⟨Nat.le_refl _⟩, ⟨pB_ HB.out⟩⟩
 case round =>
  clear H'; obtain ⟨x3_1, x11_1, rfl, rfl, HA, HK1, HB⟩ := hrel
  cases gk with
  | zero => exact absurd HA.out (by simp [slices_Concat_impl_Job_impl_Job.l0])
  | succ k1 =>
   have H := HA.out; clear HA; simp only [slices_Concat_impl_Job_impl_Job.l0] at H
   by_cases c2 : x11_1 < (l0.length : Int)
   ·rw [if_pos c2] at H
    have c2b0 : decide (x11_1 < (l0.length : Int)) = true := decide_eq_true c2; clear c2
    by_cases c3 : 0 ≤ x11_1
    ·rw [if_pos c3] at H
     have c3b0 : decide (0 ≤ x11_1) = true := decide_eq_true c3; clear c3
     by_cases c4 : x11_1 < (l0.length : Int)
     ·rw [if_pos c4] at H
      have c4b0 : decide (x11_1 < (l0.length : Int)) = true := decide_eq_true c4; clear c4
      by_cases c5 : (wrap64 (x3_1 + ((rd_L5 l0 x11_1).length : Int))) < 0
      ·rw [if_pos c5] at H
       exact absurd H (by simp)
      ·rw [if_neg c5] at H
       have c5b0:decide ((wrap64 (x3_1 + ((rd_L5 l0 x11_1).length:Int))) < 0)=false:=decide_eq_false c5;clear c5;have H':=Aside0.mk H;clear H;have p216:0≤(x11_1:Int):=of_decide_eq_true Z27;have q216:x11_1 < (l0.length:Int):=of_decide_eq_true Z27;obtain ⟨ad216,A216_0,c216_0,e216,hx216_0,hl216_0,hi216_0⟩:=at_L5 HR0.out x11_1 p216 q216;cases e216;replace hx216_0:=(HB.out.cell (World.block_lt_of_cell? w _ hx216_0)).trans hx216_0;have HR216_0:=Aside0.mk hi216_0;have HC216_0:=Aside0.mk hl216_0;clear hi216_0 hl216_0;replace p216:=eq_true p216;replace q216:=eq_true q216
       go_wp2
       go_roundg k1
       case measure => have := HK1.out; omega
       case rel => exact ⟨(wrap64 (x3_1 + ((rd_L5 l0 x11_1).length : Int))), (wrap64 (x11_1 + 1)), Z28, Z28, H', ⟨by have := HK1.out; omega⟩, ⟨pB_ HB.out⟩⟩
     ·rw [if_neg c4] at H
      exact absurd H (by simp)
    ·rw [if_neg c3] at H
     exact absurd H (by simp)
   ·rw [if_neg c2] at H
    have c2b0:decide (x11_1 < (l0.length:Int))=false:=decide_eq_false c2;clear c2;obtain ⟨t217,A60,H⟩:=Option.bind_eq_some_iff.mp H;(try dsimp only at H);have A6:=Aside0.mk A60;clear A60;have H':=Aside0.mk H;clear H
    go_wp2_with (first|((with_reducible refine gate_callee (f:=36) rfl ?_);refine goesL_ (some 24) rfl rfl Try.func36 (by kernel_rfl) rfl #[.slice none 0 0,.int .i64 x3_1] rfl Z22 ?_;(with_reducible refine (slices_Grow_impl_Job_impl_Job.calls  x3_1 t217 _ A6.out).mono ?_);rintro e w7 ⟨v218,rfl,ho0,hb⟩;refine ⟨_,rfl,?_⟩;have n_:=an_ (Kd.R_lower ho0 (below_size (pB_ HB.out)))<|Aside0.mk (below_step (pB_ HB.out) hb);clear HB;obtain ⟨HO219,HB⟩:=n_;(try clear hb);(try clear hb2);(try clear hk);(try clear hi);(try clear ho0)))
    go_loopg [6,27] k1 (fun kq v6 v27 w'=>∃ (x6_2:List (S38)) (x27_2:Int),v27=.int .i64 x27_2∧Aside0 (slices_Concat_impl_Job_impl_Job.l1 kq x6_2 l0 (l0.length:Int) x27_2=some r)∧Aside0 (kq≤k1)∧Aside0 (Kd.R k38 38 w' w.heap.size (fun _=>True) v6 x6_2)∧Aside0 (Below w.heap.size w w'))
    case atStart => exact ⟨(t217), (0), Z28, H', ⟨Nat.le_refl _⟩, ⟨pR_ HO219.out⟩, ⟨pB_ HB.out⟩⟩
    case round =>
     clear H'
     try clear c2
     try clear c2b0
     try clear p2
     try clear q2
     try clear hx2
     try clear c3
     try clear c3b0
     try clear c4
     try clear c4b0
     try clear c5
     try clear c5b0
     try clear p6
     try clear hx216_0
     try clear p216
     try clear q216
     obtain ⟨x6_2, x27_2, rfl, HA, HK2, HO_6, HB⟩ := hrel
     cases gk with
     | zero => exact absurd HA.out (by simp [slices_Concat_impl_Job_impl_Job.l1])
     | succ k2 =>
      have H := HA.out; clear HA; simp only [slices_Concat_impl_Job_impl_Job.l1] at H
      by_cases c8 : x27_2 < (l0.length : Int)
      ·rw [if_pos c8] at H
       have c8b0 : decide (x27_2 < (l0.length : Int)) = true := decide_eq_true c8; clear c8
       by_cases c9 : 0 ≤ x27_2
       ·rw [if_pos c9] at H
        have c9b0 : decide (0 ≤ x27_2) = true := decide_eq_true c9; clear c9
        by_cases c10 : x27_2 < (l0.length : Int)
        ·rw [if_pos c10] at H
         have c10b0 : decide (x27_2 < (l0.length : Int)) = true := decide_eq_true c10; clear c10
         by_cases c11 : x6_2.length + (rd_L5 l0 x27_2).length < 4398046511104
         ·rw [if_pos c11] at H
          have LMc11 := Aside0.mk c11; clear c11; obtain ⟨y221, hy221⟩ : ∃ y_ : List (S38), y_ = (x6_2 ++ (rd_L5 l0 x27_2)) := ⟨_, rfl⟩
          replace H:(slices_Concat_impl_Job_impl_Job.l1 k2 y221 l0 (l0.length:Int) (wrap64 (x27_2 + 1)))=some r:=by first|(rw [hy221];with_reducible exact H)|(have H2_:=(Option.bind_some _ _).symm.trans H;rw [hy221];with_reducible exact H2_)|(have H2_:=(Option.bind_some _ _).symm.trans H;with_reducible exact H2_)|with_reducible exact H|(rw [hy221];exact H)|exact H
          have Ny221:=Aside0.mk hy221;clear hy221;have H':=Aside0.mk H;clear H;have p220:0≤(x27_2:Int):=of_decide_eq_true Z27;have q220:x27_2 < (l0.length:Int):=of_decide_eq_true Z27;obtain ⟨ad220,A220_0,c220_0,e220,hx220_0,hl220_0,hi220_0⟩:=at_L5 HR0.out x27_2 p220 q220;cases e220;replace hx220_0:=(HB.out.cell (World.block_lt_of_cell? w _ hx220_0)).trans hx220_0;have HR220_0:=Aside0.mk hi220_0;have HC220_0:=Aside0.mk hl220_0;clear hi220_0 hl220_0;replace p220:=eq_true p220;replace q220:=eq_true q220
          go_wp2_with (first|((with_reducible refine gate_builtin (b:=.append) (xs:=#[.tmp 31,.tmp 32]) rfl ?_);at_builtin;refine Kd.R_append_rows k38 (w0:=w) w.heap.size rfl (.tmp 31) (.tmp 32) 30 38 (.agg #[(.int .i64 0),(.int .i64 0),(.int .i64 0),(.int .i64 0)]) 32 rfl Try.underlying30 info38 rfl (by decide) (by omega) u6 x6_2 (rd_L5 l0 x27_2) _ _ _ (fun _=>True) (fun _=>False) rfl rfl ?aO ?aR (fun _ _ h=>h) (fun _ h=>h.elim) ?aF ?aB ?aS ?aL ?_;(case aR=>exact pC_ (Kd.C_below HR220_0.out HB.out));(case aB=>exact (pB_ HB.out));(case aF=>exact (fun _ _=>trivial));(case aO=>exact (pR_ HO_6.out));(case aS=>exact (below_size (pB_ HB.out)));(case aL=>have:=LMc11.out;omega);intro v222 w12 ho hb hg hat;rw [← Ny221.out] at ho;have n_:=an_ (hb)<|Aside0.mk (ho);clear HB HO_6;obtain ⟨HB,HO223⟩:=n_;clear ho hb hg hat))
          go_roundg k2
          case measure => have := HK1.out; have := HK2.out; omega
          case rel => exact ⟨(y221), (wrap64 (x27_2 + 1)), Z28, H', ⟨by have := HK1.out; have := HK2.out; omega⟩, ⟨pR_ HO223.out⟩, ⟨pB_ HB.out⟩⟩
         ·rw [if_neg c11] at H
          exact absurd H (by simp)
        ·rw [if_neg c10] at H
         exact absurd H (by simp)
       ·rw [if_neg c9] at H
        exact absurd H (by simp)
      ·rw [if_neg c8] at H
       have c8b0 : decide (x27_2 < (l0.length : Int)) = false := decide_eq_false c8; clear c8; obtain rfl := Option.some.inj H
       go_wp2
       go_ret;exact ⟨_,by first|rfl|(simp [errW_none,errW_some] <;> rfl)|(simp [*,errW_none,errW_some] <;> rfl),by (with_reducible repeat (first|apply Kd.R_alloc|apply Kd.R_drewN|apply Kd.R_drew));exact HO_6.out,by repeat (first|(with_reducible first|exact HB.out|apply below_alloc|apply pw_below_drewN|apply below_drew1)|exact HB.out)⟩

/-! ### impl_Line_jobs: function 23 -/
def impl_Line_jobs.f (k : Nat) (a0_0 : Int) (l0_1 : List (S38)) (l0_2 : List (S38)) (l0_3 : List (S38)) : Option ((List (S38))) := (slices_Concat_impl_Job_impl_Job.f k (([l0_1, l0_2, l0_3] : List (List (S38))))).bind fun t228 => (some t228)
set_option maxHeartbeats 8000000 in
set_option maxRecDepth 100000 in
theorem impl_Line_jobs.calls (k : Nat) (a0_0 : Int) (P0_1_ : Nat → Prop) (A0_1 : Option Addr) (c0_1 : Nat) (l0_1 : List (S38)) (P0_2_ : Nat → Prop) (A0_2 : Option Addr) (c0_2 : Nat) (l0_2 : List (S38)) (P0_3_ : Nat → Prop) (A0_3 : Option Addr) (c0_3 : Nat) (l0_3 : List (S38)) (r : List (S38)) (w : World) (hs0_1 : Kd.V k38 38 w w.heap.size (fun k_ => P0_1_ k_) (.slice A0_1 l0_1.length c0_1) l0_1) (hs0_2 : Kd.V k38 38 w w.heap.size (fun k_ => P0_2_ k_) (.slice A0_2 l0_2.length c0_2) l0_2) (hs0_3 : Kd.V k38 38 w w.heap.size (fun k_ => P0_3_ k_) (.slice A0_3 l0_3.length c0_3) l0_3) (h : impl_Line_jobs.f k a0_0 l0_1 l0_2 l0_3 = some r) :
  Calls Try.prog 23 #[.agg #[.int .i64 a0_0,.slice A0_1 l0_1.length c0_1,.slice A0_2 l0_2.length c0_2,.slice A0_3 l0_3.length c0_3]] w fun e w'=>∃ v0_:Value,e=.returned (v0_)∧Kd.R k38 38 w' w.heap.size (fun k_=>(w.heap.size≤k_)) v0_ r∧Below w.heap.size w w':=by
 have hu32 := Try.underlying32
 have HO0_1:=Aside0.mk (show Kd.V k38 38 w w.heap.size (fun k_=>((P0_1_ k_ ∨ P0_2_ k_ ∨ P0_3_ k_) ∨ w.heap.size≤k_)) (.slice A0_1 l0_1.length c0_1) l0_1 from Kd.V_mono hs0_1 (fun k_ hk=>.inl (.inl hk)))
 have HO0_2:=Aside0.mk (show Kd.V k38 38 w w.heap.size (fun k_=>((P0_1_ k_ ∨ P0_2_ k_ ∨ P0_3_ k_) ∨ w.heap.size≤k_)) (.slice A0_2 l0_2.length c0_2) l0_2 from Kd.V_mono hs0_2 (fun k_ hk=>.inl (.inr (.inl hk))))
 have HO0_3:=Aside0.mk (show Kd.V k38 38 w w.heap.size (fun k_=>((P0_1_ k_ ∨ P0_2_ k_ ∨ P0_3_ k_) ∨ w.heap.size≤k_)) (.slice A0_3 l0_3.length c0_3) l0_3 from Kd.V_mono hs0_3 (fun k_ hk=>.inl (.inr (.inr hk))))
 have HB := Aside0.mk (Below.refl w.heap.size w)
 have H : ((slices_Concat_impl_Job_impl_Job.f k (([l0_1, l0_2, l0_3] : List (List (S38))))).bind fun t228 => (some t228)) = some r := h
 clear h
 obtain ⟨y225, hy225⟩ : ∃ y_ : List (List (S38)), y_ = (([l0_1, l0_2, l0_3] : List (List (S38)))) := ⟨_, rfl⟩
 replace H:((slices_Concat_impl_Job_impl_Job.f k y225).bind fun t228=>(some t228))=some r:=by first|(rw [hy225];with_reducible exact H)|(have H2_:=(Option.bind_some _ _).symm.trans H;rw [hy225];with_reducible exact H2_)|(have H2_:=(Option.bind_some _ _).symm.trans H;with_reducible exact H2_)|with_reducible exact H|(rw [hy225];exact H)|exact H
 have Ny225 := Aside0.mk hy225
 clear hy225
 obtain ⟨t228, A20, H⟩ := Option.bind_eq_some_iff.mp H
 (try dsimp only at H)
 have A2 := Aside0.mk A20
 clear A20
 obtain rfl := Option.some.inj H
 go_enter Try.func23, Try.ntmps23
 go_wp2_with (first|((with_reducible refine gate_dst (N:=1) rfl ?_);refine box_event ?hg (N:=1) ?hd (cs:=#[.int .i64 a0_0,.slice A0_1 l0_1.length c0_1,.slice A0_2 l0_2.length c0_2,.slice A0_3 l0_3.length c0_3]) (t:=32) ?hr ?_;(case hd=>rfl);(case hg=>rfl);(case hr=>first|(go_simp;done)|(go_simp;rfl));intro gb224 hg w3 hbox hb;have n_:=an_ (Kd.V_below (Kd.V_elderB (pV_ HO0_1.out) gb224 (Nat.le_of_eq hg.symm)) hb)<|an_ (Kd.V_below (Kd.V_elderB (pV_ HO0_2.out) gb224 (Nat.le_of_eq hg.symm)) hb)<|an_ (Kd.V_below (Kd.V_elderB (pV_ HO0_3.out) gb224 (Nat.le_of_eq hg.symm)) hb)<|an_ (below_step (pB_ HB.out) hb)<|an_ (hbox)<|an_ ((by rw [hg];exact (below_size (pB_ HB.out)):w.heap.size≤gb224))<|Aside0.mk ((by rw [hg];exact (below_size (pB_ HB.out)):w.heap.size≤gb224));clear HO0_1 HO0_2 HO0_3 HB;obtain ⟨HO0_1,HO0_2,HO0_3,HB,BK224,GW224,GE224⟩:=n_;clear hb hbox hg;have hcz4_0:w3.cell? ⟨gb224,0,none⟩=some (.int .i64 a0_0):=(blk_cell BK224.out 0).trans rfl;have hcz4_1:w3.cell? ⟨gb224,1,none⟩=some (.slice A0_1 l0_1.length c0_1):=(blk_cell BK224.out 1).trans rfl;have hcz4_2:w3.cell? ⟨gb224,2,none⟩=some (.slice A0_2 l0_2.length c0_2):=(blk_cell BK224.out 2).trans rfl;have hcz4_3:w3.cell? ⟨gb224,3,none⟩=some (.slice A0_3 l0_3.length c0_3):=(blk_cell BK224.out 3).trans rfl;have hfz4_0:=blk_frozen BK224.out 0;have hfz4_1:=blk_frozen BK224.out 1;have hfz4_2:=blk_frozen BK224.out 2;have hfz4_3:=blk_frozen BK224.out 3)|((with_reducible refine gate_dst (N:=9) rfl ?_);refine Kd.N_lit (Kd.slice 38 k38) _ 30 ?hg (N':=9) ?hd (xs:=([l0_1,l0_2,l0_3]:List (List (S38)))) (inner:=[.slice A0_1 l0_1.length c0_1,.slice A0_2 l0_2.length c0_2,.slice A0_3 l0_3.length c0_3]) (ok:=(fun k_=>((P0_1_ k_ ∨ P0_2_ k_ ∨ P0_3_ k_) ∨ w.heap.size≤k_)∧k_≠gb224)) (okp:=(fun k_=>((P0_1_ k_ ∨ P0_2_ k_ ∨ P0_3_ k_) ∨ w.heap.size≤k_)∧k_≠gb224)) ?hr ?hp (fun _ hk=>hk) ((show ∀ k_,w3.heap.size≤k_ → (fun k_=>((P0_1_ k_ ∨ P0_2_ k_ ∨ P0_3_ k_) ∨ w.heap.size≤k_)∧k_≠gb224) k_ from fun k_ hk=>⟨(.inr (Nat.le_trans (below_size (pB_ HB.out)) hk)),Kd.freshB (pk_ BK224.out) k_ hk⟩) _ (Nat.le_refl _)) (Below.refl _ _) (Nat.le_refl _) (by simp) ?_;(case hd=>rfl);(case hg=>rfl);(case hr=>first|(go_simp;done)|(go_simp;rfl));(case hp=>exact (Reps.one (show Kd.FK (Kd.slice 38 k38) _ _ l0_1 [.slice A0_1 l0_1.length c0_1] from (Kd.FK_slice_mk (Kd.V_reads' (Kd.V_mono (ok':=(fun k_=>((P0_1_ k_ ∨ P0_2_ k_ ∨ P0_3_ k_) ∨ w.heap.size≤k_)∧k_≠gb224)) (HO0_1.out) (fun k_ hk=>⟨hk.1,hk.2⟩))).2.1 (by (with_reducible repeat (first|apply Kd.F_alloc|apply Kd.F_drewN|apply Kd.F_drew));exact Kd.V_F (Kd.V_mono (ok':=(fun k_=>((P0_1_ k_ ∨ P0_2_ k_ ∨ P0_3_ k_) ∨ w.heap.size≤k_)∧k_≠gb224)) (HO0_1.out) (fun k_ hk=>⟨hk.1,hk.2⟩))))) (Reps.one (show Kd.FK (Kd.slice 38 k38) _ _ l0_2 [.slice A0_2 l0_2.length c0_2] from (Kd.FK_slice_mk (Kd.V_reads' (Kd.V_mono (ok':=(fun k_=>((P0_1_ k_ ∨ P0_2_ k_ ∨ P0_3_ k_) ∨ w.heap.size≤k_)∧k_≠gb224)) (HO0_2.out) (fun k_ hk=>⟨hk.1,hk.2⟩))).2.1 (by (with_reducible repeat (first|apply Kd.F_alloc|apply Kd.F_drewN|apply Kd.F_drew));exact Kd.V_F (Kd.V_mono (ok':=(fun k_=>((P0_1_ k_ ∨ P0_2_ k_ ∨ P0_3_ k_) ∨ w.heap.size≤k_)∧k_≠gb224)) (HO0_2.out) (fun k_ hk=>⟨hk.1,hk.2⟩))))) (Reps.one (show Kd.FK (Kd.slice 38 k38) _ _ l0_3 [.slice A0_3 l0_3.length c0_3] from (Kd.FK_slice_mk (Kd.V_reads' (Kd.V_mono (ok':=(fun k_=>((P0_1_ k_ ∨ P0_2_ k_ ∨ P0_3_ k_) ∨ w.heap.size≤k_)∧k_≠gb224)) (HO0_3.out) (fun k_ hk=>⟨hk.1,hk.2⟩))).2.1 (by (with_reducible repeat (first|apply Kd.F_alloc|apply Kd.F_drewN|apply Kd.F_drew));exact Kd.V_F (Kd.V_mono (ok':=(fun k_=>((P0_1_ k_ ∨ P0_2_ k_ ∨ P0_3_ k_) ∨ w.heap.size≤k_)∧k_≠gb224)) (HO0_3.out) (fun k_ hk=>⟨hk.1,hk.2⟩))))) (Reps.none _ _)))));intro v226 w5 ho6 hb hg_ hnew_;clear hg_ hnew_;(first|rw [← Ny225.out] at ho6|(simp only [Int.reduceToNat] at ho6;rw [← Ny225.out] at ho6));have n_:=an_ (Kd.V_elder' (pV_ HO0_1.out) (Kd.N_base ho6) hb)<|an_ (Kd.V_elder' (pV_ HO0_2.out) (Kd.N_base ho6) hb)<|an_ (Kd.V_elder' (pV_ HO0_3.out) (Kd.N_base ho6) hb)<|an_ (Kd.N_lower ho6 (below_size (pB_ HB.out)))<|an_ (blk_below (pk_ BK224.out) hb)<|Aside0.mk (below_step (pB_ HB.out) hb);clear HO0_1 HO0_2 HO0_3 BK224 HB;obtain ⟨HO0_1,HO0_2,HO0_3,HO227,BK224,HB⟩:=n_;clear hb ho6;obtain ⟨Ao7,co7,eo7⟩:=Kd.N_slice HO227.out;subst eo7)|((with_reducible refine gate_callee (f:=33) rfl ?_);refine goesL_ (some 10) rfl rfl Try.func33 (by kernel_rfl) rfl #[.slice Ao7 y225.length co7] rfl Z22 ?_;(with_reducible refine (slices_Concat_impl_Job_impl_Job.calls k _ _ y225 t228 _ ?side1 ?side2 A2.out).mono ?_);(case side1=>exact pC_ ((Kd.N_reads' HO227.out).2.2));(case side2=>exact (Kd.N_reads' HO227.out).2.1);rintro e w8 ⟨v229,rfl,ho0,hb⟩;refine ⟨_,rfl,?_⟩;have n_:=an_ (Kd.V_elder' (pV_ HO0_1.out) (Kd.R_base ho0) hb)<|an_ (Kd.V_elder' (pV_ HO0_2.out) (Kd.R_base ho0) hb)<|an_ (Kd.V_elder' (pV_ HO0_3.out) (Kd.R_base ho0) hb)<|an_ (Kd.N_elder' (pN_ HO227.out) (Kd.R_base ho0) hb)<|an_ (Kd.R_lower (Kd.R_newM (M:=fun k_=>(w.heap.size≤k_)) ho0 (below_size (pB_ HB.out)) (fun k_ h_=>h_)) (below_size (pB_ HB.out)))<|an_ (blk_below (pk_ BK224.out) hb)<|Aside0.mk (below_step (pB_ HB.out) hb);clear HO0_1 HO0_2 HO0_3 HO227 BK224 HB;obtain ⟨HO0_1,HO0_2,HO0_3,HO227,HO230,BK224,HB⟩:=n_;(try clear hb);(try clear hb2);(try clear hk);(try clear hi);(try clear ho0)))
 go_ret
 exact ⟨_,by first|rfl|(simp [errW_none,errW_some] <;> rfl)|(simp [*,errW_none,errW_some] <;> rfl),by (with_reducible repeat (first|apply Kd.R_alloc|apply Kd.R_drewN|apply Kd.R_drew));exact Kd.R_mono HO230.out (fun _ hk=>hk.1),by repeat (first|(with_reducible first|exact HB.out|apply below_alloc|apply pw_below_drewN|apply below_drew1|refine below_set ?_ GE224.out)|exact HB.out)⟩

/-! ### impl_isNeed: function 30 -/
def impl_isNeed.f (a0 : Int) : Option (Bool) := (impl_within.f a0 1 1000).bind fun t231 => (some t231)
set_option maxHeartbeats 8000000 in
set_option maxRecDepth 100000 in
theorem impl_isNeed.calls (a0 : Int) (r : Bool) (w : World) (h : impl_isNeed.f a0 = some r) :
  Calls Try.prog 30 #[.int .i64 a0] w fun e w' => e = .returned (.bool r) ∧ Drawn0 w w' := by
 have H : ((impl_within.f a0 1 1000).bind fun t231 => (some t231)) = some r := h
 clear h
 obtain ⟨t231, A20, H⟩ := Option.bind_eq_some_iff.mp H
 (try dsimp only at H)
 have A2 := Aside0.mk A20
 clear A20
 obtain rfl := Option.some.inj H
 go_enter Try.func30, Try.ntmps30
 go_wp2_with (first|((with_reducible refine gate_callee (f:=21) rfl ?_);refine goesL_ (some 4) rfl rfl Try.func21 (by kernel_rfl) rfl #[.int .i64 a0,.int .i64 1,.int .i64 1000] rfl Z22 ?_;(with_reducible refine (impl_within.calls a0 1 1000 t231 _ A2.out).mono ?_);rintro e w' ⟨rfl,⟨nd,rfl⟩⟩;refine ⟨_,rfl,?_⟩))
 go_ret
 exact ⟨by first | rfl | (simp; done) | (simp [*]; done), by repeat (first | exact Drawn0.refl _ | apply Drawn0.step)⟩

end Go.Proofs.Ytcdangcjbijfkab.PFnExactLinePut
