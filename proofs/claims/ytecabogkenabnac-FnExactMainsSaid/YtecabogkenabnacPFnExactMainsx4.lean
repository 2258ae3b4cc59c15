-- by a program of this session's, over the kit's words
import Derived.Test.YtecabogkenabnacPZFnExactMains
import Derived.Test.YtecabogkenabnacPFnExactMainsx0
namespace Go.Proofs.Ytecabogkenabnac.PFnExactMains
open Go.RowKit Go.Proofs.YtecabogkenabnacW.PrintWords Go.Proofs.YtecabogkenabnacW.PrintLast Go.Proofs.YtecabogkenabnacW.PrintMore Go.Proofs.YtecabogkenabnacV Go.Proofs.Ytecabogkenabnac.ZFnExactMains
attribute [local go_sem] max2_int min2_int max_two min_two max_three min_three max_four min_four   -- for this text's walks alone
set_option linter.unusedVariables false
set_option linter.unusedSimpArgs false

/-! ### slices_IndexFunc_impl_Deal_impl_Deal: function 39 -/
def slices_IndexFunc_impl_Deal_impl_Deal.l0 : Nat → List (S43) → (Int → Int → Int → Int → Int → (List Int) → Option (Bool)) → Int → Int → Option (Int)
 | 0, _, _, _, _ => none
 | k + 1,x0,x1,x7,x8=>if x8 < x7 then (if 0≤x8 then (if x8 < (x0.length:Int) then ((x1 ((rd_T43 x0 x8).f0) ((rd_T43 x0 x8).f1) ((rd_T43 x0 x8).f2.f0) ((rd_T43 x0 x8).f2.f1) ((rd_T43 x0 x8).f2.f2) ((rd_T43 x0 x8).f3)).bind fun t183=>(if t183=true then (some x8) else (slices_IndexFunc_impl_Deal_impl_Deal.l0 k x0 x1 x7 (wrap64 (x8 + 1))))) else (none)) else (none)) else (some (-1))
def slices_IndexFunc_impl_Deal_impl_Deal.f (k : Nat) (l0 : List (S43)) (a1 : (Int → Int → Int → Int → Int → (List Int) → Option (Bool))) : Option (Int) := slices_IndexFunc_impl_Deal_impl_Deal.l0 k l0 a1 (l0.length : Int) 0
set_option maxHeartbeats 8000000 in
set_option maxRecDepth 100000 in
theorem slices_IndexFunc_impl_Deal_impl_Deal.calls (k : Nat) (A0 : Option Addr) (c0 : Nat) (l0 : List (S43)) (a1 : (Int → Int → Int → Int → Int → (List Int) → Option (Bool))) (fn1 : Nat) (cp1 : Array Value) (r : Int) (w : World) (hr0 : Kd.C k43 w A0 l0.length l0) (hc0 : l0.length ≤ c0) (hq1 : Aside0 (∃ F_, Try.prog.funcs[fn1]? = some F_ ∧ (F_.name == "runtime.NumGoroutine") = false ∧ F_.body.isSome = true)) (HP1_39 : Aside0 (∀ (a900_0 : Int) (a900_1 : Int) (a900_2 : Int) (a900_3 : Int) (a900_4 : Int) (A900_5 : Option Addr) (c900_5 : Nat) (l900_5 : List Int) (rr0_ : Bool) (W_ : World), Below w.heap.size w W_ → Kd.C (Kd.int .i64) W_ A900_5 l900_5.length l900_5 → l900_5.length ≤ c900_5 → a1 a900_0 a900_1 a900_2 a900_3 a900_4 l900_5 = some rr0_ → Calls Try.prog fn1 (#[.agg #[.int .i64 a900_0, .int .i64 a900_1, .int .i64 a900_2, .int .i64 a900_3, .int .i64 a900_4, .slice A900_5 l900_5.length c900_5]] ++ cp1) W_ (fun e w' => e = .returned (.bool rr0_) ∧ Below W_.heap.size W_ w'))) (h : slices_IndexFunc_impl_Deal_impl_Deal.f k l0 a1 = some r) :
  Calls Try.prog 39 #[.slice A0 l0.length c0, .func (.func fn1) #[] cp1] w fun e w' => e = .returned (.int .i64 r) ∧ Below w.heap.size w w' := by
 have hu43 := Try.underlying43
 have HR0 := Aside0.mk hr0
 have HC0 := Aside0.mk hc0
 clear hr0 hc0
 have HB := Aside0.mk (Below.refl w.heap.size w)
 have H : (slices_IndexFunc_impl_Deal_impl_Deal.l0 k l0 a1 (l0.length : Int) 0) = some r := h
 clear h
 have H' := Aside0.mk H
 clear H
 go_enter Try.func39, Try.ntmps39
 go_wp2
 go_loopg [8] k (fun kq v8 w'=>∃ (x8_1:Int),v8=.int .i64 x8_1∧Aside0 (slices_IndexFunc_impl_Deal_impl_Deal.l0 kq l0 a1 (l0.length:Int) x8_1=some r)∧Aside0 (kq≤k)∧Aside0 (Below w.heap.size w w'))
 case atStart => exact ⟨(0), Z9, H', ⟨Nat.le_refl _⟩, ⟨pB_ HB.out⟩⟩
 case round =>
  clear H'
  try clear p2
  obtain ⟨x8_1, rfl, HA, HK1, HB⟩ := hrel
  cases gk with
  | zero => exact absurd HA.out (by simp [slices_IndexFunc_impl_Deal_impl_Deal.l0])
  | succ k1 =>
   have H := HA.out; clear HA; simp only [slices_IndexFunc_impl_Deal_impl_Deal.l0] at H
   by_cases c3 : x8_1 < (l0.length : Int)
   ·rw [if_pos c3] at H
    have c3b0 : decide (x8_1 < (l0.length : Int)) = true := decide_eq_true c3; clear c3
    by_cases c4 : 0 ≤ x8_1
    ·rw [if_pos c4] at H
     have c4b0 : decide (0 ≤ x8_1) = true := decide_eq_true c4; clear c4
     by_cases c5 : x8_1 < (l0.length : Int)
     ·rw [if_pos c5] at H
      have c5b0:decide (x8_1 < (l0.length:Int))=true:=decide_eq_true c5;clear c5;obtain ⟨t183,A60,H⟩:=Option.bind_eq_some_iff.mp H;(try dsimp only at H);have A6:=Aside0.mk A60;clear A60;have HU7:=Aside0.mk H;clear H;have p182:0≤(x8_1:Int):=of_decide_eq_true Z8;have q182:x8_1 < (l0.length:Int):=of_decide_eq_true Z8;obtain ⟨ad182,A182_5,c182_5,e182,hx182_0,hx182_1,hx182_2,hx182_3,hx182_4,hx182_5,hl182_5,hi182_5⟩:=at_T43 HR0.out x8_1 p182 q182;cases e182;replace hx182_0:=(HB.out.cell (World.block_lt_of_cell? w _ hx182_0)).trans hx182_0;replace hx182_1:=(HB.out.cell (World.block_lt_of_cell? w _ hx182_1)).trans hx182_1;replace hx182_2:=(HB.out.cell (World.block_lt_of_cell? w _ hx182_2)).trans hx182_2;replace hx182_3:=(HB.out.cell (World.block_lt_of_cell? w _ hx182_3)).trans hx182_3;replace hx182_4:=(HB.out.cell (World.block_lt_of_cell? w _ hx182_4)).trans hx182_4;replace hx182_5:=(HB.out.cell (World.block_lt_of_cell? w _ hx182_5)).trans hx182_5;have HR182_5:=Aside0.mk hi182_5;have HC182_5:=Aside0.mk hl182_5;clear hi182_5 hl182_5;replace p182:=eq_true p182;replace q182:=eq_true q182
      go_upto_if 16 with (first|((with_reducible refine gate_calleeV (j:=11) rfl ?_);obtain ⟨_,hF1_,hF2_,hF3_⟩:=hq1.out;refine goesVL_ (some 16) rfl rfl hF1_ hF2_ hF3_ #[.agg #[.int .i64 ((rd_T43 l0 x8_1).f0),.int .i64 ((rd_T43 l0 x8_1).f1),.int .i64 ((rd_T43 l0 x8_1).f2.f0),.int .i64 ((rd_T43 l0 x8_1).f2.f1),.int .i64 ((rd_T43 l0 x8_1).f2.f2),.slice A182_5 ((rd_T43 l0 x8_1).f3).length c182_5]] (cp:=cp1) rfl (by first|rfl|(go_simp;done)|simp) Z2 ?_;(with_reducible refine (HP1_39.out ((rd_T43 l0 x8_1).f0) ((rd_T43 l0 x8_1).f1) ((rd_T43 l0 x8_1).f2.f0) ((rd_T43 l0 x8_1).f2.f1) ((rd_T43 l0 x8_1).f2.f2) _ _ ((rd_T43 l0 x8_1).f3) t183 _ ?side1 ?side2 ?side3 A6.out).mono ?_);(case side1=>exact pB_ HB.out);(case side2=>exact pC_ (Kd.C_below HR182_5.out HB.out));(case side3=>exact HC182_5.out);rintro e w8 ⟨rfl,hb⟩;refine ⟨_,rfl,?_⟩;have n0_:=Aside0.mk (below_step (pB_ HB.out) hb);clear HB;have HB:=n0_;clear n0_;(try clear hb);(try clear hb2);(try clear hk);(try clear hi)))
      have H := HU7.out; clear HU7
      by_cases c9 : t183 = true
      ·subst c9
       rw [if_pos rfl] at H; obtain rfl := Option.some.inj H
       go_wp2
       go_ret; exact ⟨by first | rfl | (simp [errW_none, errW_some] <;> rfl) | (simp [*, errW_none, errW_some] <;> rfl), pB_ HB.out⟩
      ·replace c9 := Bool.eq_false_iff.mpr c9
       subst c9; rw [if_neg (show ¬ (false = true) by decide)] at H; have H' := Aside0.mk H; clear H
       go_wp2
       go_roundg k1
       case measure => have := HK1.out; omega
       case rel => exact ⟨(wrap64 (x8_1 + 1)), Z9, H', ⟨by have := HK1.out; omega⟩, ⟨pB_ HB.out⟩⟩
     ·rw [if_neg c5] at H
      exact absurd H (by simp)
    ·rw [if_neg c4] at H
     exact absurd H (by simp)
   ·rw [if_neg c3] at H
    have c3b0 : decide (x8_1 < (l0.length : Int)) = false := decide_eq_false c3; clear c3; obtain rfl := Option.some.inj H
    go_wp2
    go_ret; exact ⟨by first | rfl | (simp [errW_none, errW_some] <;> rfl) | (simp [*, errW_none, errW_some] <;> rfl), pB_ HB.out⟩

/-! ### slices_ContainsFunc_impl_Deal_impl_Deal: function 29 -/
def slices_ContainsFunc_impl_Deal_impl_Deal.f (k : Nat) (l0 : List (S43)) (a1 : (Int → Int → Int → Int → Int → (List Int) → Option (Bool))) : Option (Bool) := (slices_IndexFunc_impl_Deal_impl_Deal.f k l0 a1).bind fun t184 => (some (decide (t184 ≥ 0)))
set_option maxHeartbeats 8000000 in
set_option maxRecDepth 100000 in
theorem slices_ContainsFunc_impl_Deal_impl_Deal.calls (k : Nat) (A0 : Option Addr) (c0 : Nat) (l0 : List (S43)) (a1 : (Int → Int → Int → Int → Int → (List Int) → Option (Bool))) (fn1 : Nat) (cp1 : Array Value) (r : Bool) (w : World) (hr0 : Kd.C k43 w A0 l0.length l0) (hc0 : l0.length ≤ c0) (hq1 : Aside0 (∃ F_, Try.prog.funcs[fn1]? = some F_ ∧ (F_.name == "runtime.NumGoroutine") = false ∧ F_.body.isSome = true)) (HP1_29 : Aside0 (∀ (a900_0 : Int) (a900_1 : Int) (a900_2 : Int) (a900_3 : Int) (a900_4 : Int) (A900_5 : Option Addr) (c900_5 : Nat) (l900_5 : List Int) (rr0_ : Bool) (W_ : World), Below w.heap.size w W_ → Kd.C (Kd.int .i64) W_ A900_5 l900_5.length l900_5 → l900_5.length ≤ c900_5 → a1 a900_0 a900_1 a900_2 a900_3 a900_4 l900_5 = some rr0_ → Calls Try.prog fn1 (#[.agg #[.int .i64 a900_0, .int .i64 a900_1, .int .i64 a900_2, .int .i64 a900_3, .int .i64 a900_4, .slice A900_5 l900_5.length c900_5]] ++ cp1) W_ (fun e w' => e = .returned (.bool rr0_) ∧ Below W_.heap.size W_ w'))) (h : slices_ContainsFunc_impl_Deal_impl_Deal.f k l0 a1 = some r) :
  Calls Try.prog 29 #[.slice A0 l0.length c0, .func (.func fn1) #[] cp1] w fun e w' => e = .returned (.bool r) ∧ Below w.heap.size w w' := by
 have HR0 := Aside0.mk hr0
 have HC0 := Aside0.mk hc0
 clear hr0 hc0
 have HB := Aside0.mk (Below.refl w.heap.size w)
 have H : ((slices_IndexFunc_impl_Deal_impl_Deal.f k l0 a1).bind fun t184 => (some (decide (t184 ≥ 0)))) = some r := h
 clear h
 obtain ⟨t184, A30, H⟩ := Option.bind_eq_some_iff.mp H
 (try dsimp only at H)
 have A3 := Aside0.mk A30
 clear A30
 obtain rfl := Option.some.inj H
 go_enter Try.func29, Try.ntmps29
 go_wp2_with (first|((with_reducible refine gate_callee (f:=39) rfl ?_);refine goesL_ (some 7) rfl rfl Try.func39 (by kernel_rfl) rfl #[.slice A0 l0.length c0,.func (.func fn1) #[] cp1] rfl Z2 ?_;(with_reducible refine (slices_IndexFunc_impl_Deal_impl_Deal.calls k _ _ l0 a1 fn1 cp1 t184 _ ?side1 ?side2 ?side3 ?side4 A3.out).mono ?_);(case side1=>exact pC_ HR0.out);(case side2=>exact HC0.out);(case side3=>exact hq1);(case side4=>refine ⟨?_⟩;intro a900_0 a900_1 a900_2 a900_3 a900_4 A900_5 c900_5 l900_5 rr0_ W_ hW_ hr900_5 hc900_5 h_;exact HP1_29.out a900_0 a900_1 a900_2 a900_3 a900_4 A900_5 c900_5 l900_5 rr0_ W_ (below_step (pB_ HB.out) hW_) hr900_5 hc900_5 h_);rintro e w4 ⟨rfl,hb⟩;refine ⟨_,rfl,?_⟩;have n0_:=Aside0.mk (below_step (pB_ HB.out) hb);clear HB;have HB:=n0_;clear n0_;(try clear hb);(try clear hb2);(try clear hk);(try clear hi)))
 go_ret
 exact ⟨by first | rfl | (simp [errW_none, errW_some] <;> rfl) | (simp [*, errW_none, errW_some] <;> rfl), pB_ HB.out⟩

/-! ### impl_within: function 45 -/
def impl_within.f (a0 : Int) (a1 : Int) (a2 : Int) : Option (Bool) := if a0 ≥ a1 then (some (decide (a0 ≤ a2))) else (some false)
set_option maxHeartbeats 8000000 in
set_option maxRecDepth 100000 in
theorem impl_within.calls (a0 : Int) (a1 : Int) (a2 : Int) (r : Bool) (w : World) (h : impl_within.f a0 a1 a2 = some r) :
  Calls Try.prog 45 #[.int .i64 a0, .int .i64 a1, .int .i64 a2] w fun e w' => e = .returned (.bool r) ∧ Drawn0 w w' := by
 have H : (if a0 ≥ a1 then (some (decide (a0 ≤ a2))) else (some false)) = some r := h
 clear h
 by_cases c4 : a0 ≥ a1
 ·rw [if_pos c4] at H
  have c4b0 : decide (a1 ≤ a0) = true := decide_eq_true c4; clear c4; obtain rfl := Option.some.inj H; go_enter Try.func45, Try.ntmps45
  go_wp2
  go_ret; exact ⟨by first | rfl | (simp; done) | (simp [*]; done), by repeat (first | exact Drawn0.refl _ | apply Drawn0.step)⟩
 ·rw [if_neg c4] at H
  have c4b0 : decide (a1 ≤ a0) = false := decide_eq_false c4; clear c4; obtain rfl := Option.some.inj H; go_enter Try.func45, Try.ntmps45
  go_wp2
  go_ret; exact ⟨by first | rfl | (simp; done) | (simp [*]; done), by repeat (first | exact Drawn0.refl _ | apply Drawn0.step)⟩

/-! ### impl_isFlow: function 41 -/
def impl_isFlow.f (a0 : Int) : Option (Bool) := (impl_within.f a0 0 9999).bind fun t185 => (some t185)
set_option maxHeartbeats 8000000 in
set_option maxRecDepth 100000 in
theorem impl_isFlow.calls (a0 : Int) (r : Bool) (w : World) (h : impl_isFlow.f a0 = some r) :
  Calls Try.prog 41 #[.int .i64 a0] w fun e w' => e = .returned (.bool r) ∧ Drawn0 w w' := by
 have H : ((impl_within.f a0 0 9999).bind fun t185 => (some t185)) = some r := h
 clear h
 obtain ⟨t185, A20, H⟩ := Option.bind_eq_some_iff.mp H
 (try dsimp only at H)
 have A2 := Aside0.mk A20
 clear A20
 obtain rfl := Option.some.inj H
 go_enter Try.func41, Try.ntmps41
 go_wp2_with (first|((with_reducible refine gate_callee (f:=45) rfl ?_);refine goesL_ (some 4) rfl rfl Try.func45 (by kernel_rfl) rfl #[.int .i64 a0,.int .i64 0,.int .i64 9999] rfl Z2 ?_;(with_reducible refine (impl_within.calls a0 0 9999 t185 _ A2.out).mono ?_);rintro e w' ⟨rfl,⟨nd,rfl⟩⟩;refine ⟨_,rfl,?_⟩))
 go_ret
 exact ⟨by first | rfl | (simp; done) | (simp [*]; done), by repeat (first | exact Drawn0.refl _ | apply Drawn0.step)⟩

/-! ### impl_Vec_isFrom: function 46 -/
def impl_Vec_isFrom.f (a0_0 : Int) (a0_1 : Int) (a0_2 : Int) (a1 : Int) (a2 : Int) : Option (Bool) := (impl_within.f a0_0 a1 a2).bind fun t187 => (if t187 = true then ((impl_within.f a0_1 a1 a2).bind fun t188 => (if t188 = true then ((impl_within.f a0_2 a1 a2).bind fun t189 => (some t189)) else (some false))) else (some false))
set_option maxHeartbeats 8000000 in
set_option maxRecDepth 100000 in
theorem impl_Vec_isFrom.calls (a0_0 : Int) (a0_1 : Int) (a0_2 : Int) (a1 : Int) (a2 : Int) (r : Bool) (w : World) (h : impl_Vec_isFrom.f a0_0 a0_1 a0_2 a1 a2 = some r) :
  Calls Try.prog 46 #[.agg #[.int .i64 a0_0, .int .i64 a0_1, .int .i64 a0_2], .int .i64 a1, .int .i64 a2] w fun e w' => e = .returned (.bool r) ∧ Below w.heap.size w w' := by
 have hu41 := Try.underlying41
 have HB := Aside0.mk (Below.refl w.heap.size w)
 have H:((impl_within.f a0_0 a1 a2).bind fun t187=>(if t187=true then ((impl_within.f a0_1 a1 a2).bind fun t188=>(if t188=true then ((impl_within.f a0_2 a1 a2).bind fun t189=>(some t189)) else (some false))) else (some false)))=some r:=h
 clear h
 obtain ⟨t187, A40, H⟩ := Option.bind_eq_some_iff.mp H
 (try dsimp only at H)
 have A4 := Aside0.mk A40
 clear A40
 by_cases c5 : t187 = true
 ·subst c5
  rw [if_pos rfl] at H; obtain ⟨t188, A60, H⟩ := Option.bind_eq_some_iff.mp H; (try dsimp only at H); have A6 := Aside0.mk A60; clear A60
  by_cases c7 : t188 = true
  ·subst c7
   rw [if_pos rfl] at H;obtain ⟨t189,A80,H⟩:=Option.bind_eq_some_iff.mp H;(try dsimp only at H);have A8:=Aside0.mk A80;clear A80;obtain rfl:=Option.some.inj H;go_enter Try.func46,Try.ntmps46
   go_wp2_with (first|((with_reducible refine gate_dst (N:=3) rfl ?_);refine box_event ?hg (N:=3) ?hd (cs:=#[.int .i64 a0_0,.int .i64 a0_1,.int .i64 a0_2]) (t:=41) ?hr ?_;(case hd=>rfl);(case hg=>rfl);(case hr=>first|(go_simp;done)|(go_simp;rfl));intro gb186 hg w9 hbox hb;have n_:=an_ (below_step (pB_ HB.out) hb)<|an_ (hbox)<|an_ ((by rw [hg];exact (below_size (pB_ HB.out)):w.heap.size≤gb186))<|Aside0.mk ((by rw [hg];exact (below_size (pB_ HB.out)):w.heap.size≤gb186));clear HB;obtain ⟨HB,BK186,GW186,GE186⟩:=n_;clear hb hbox hg;have hcz10_0:w9.cell? ⟨gb186,0,none⟩=some (.int .i64 a0_0):=(blk_cell BK186.out 0).trans rfl;have hcz10_1:w9.cell? ⟨gb186,1,none⟩=some (.int .i64 a0_1):=(blk_cell BK186.out 1).trans rfl;have hcz10_2:w9.cell? ⟨gb186,2,none⟩=some (.int .i64 a0_2):=(blk_cell BK186.out 2).trans rfl;have hfz10_0:=blk_frozen BK186.out 0;have hfz10_1:=blk_frozen BK186.out 1;have hfz10_2:=blk_frozen BK186.out 2)|((with_reducible refine gate_callee (f:=45) rfl ?_);refine goesL_ (some 11) rfl rfl Try.func45 (by kernel_rfl) rfl #[.int .i64 a0_0,.int .i64 a1,.int .i64 a2] rfl Z2 ?_;(with_reducible refine (impl_within.calls a0_0 a1 a2 true _ A4.out).mono ?_);rintro e w' ⟨rfl,⟨nd,rfl⟩⟩;refine ⟨_,rfl,?_⟩)|(go_at_call 45;(with_reducible refine (impl_within.calls a0_1 a1 a2 true _ A6.out).mono ?_);rintro e w' ⟨rfl,⟨nd,rfl⟩⟩)|(go_at_call 45;(with_reducible refine (impl_within.calls a0_2 a1 a2 t189 _ A8.out).mono ?_);rintro e w' ⟨rfl,⟨nd,rfl⟩⟩))
   go_ret; exact ⟨by first | rfl | (simp [errW_none, errW_some] <;> rfl) | (simp [*, errW_none, errW_some] <;> rfl), pB_ HB.out⟩
  ·replace c7 := Bool.eq_false_iff.mpr c7
   subst c7; rw [if_neg (show ¬ (false = true) by decide)] at H; obtain rfl := Option.some.inj H; go_enter Try.func46, Try.ntmps46
   go_wp2_with (first|((with_reducible refine gate_dst (N:=3) rfl ?_);refine box_event ?hg (N:=3) ?hd (cs:=#[.int .i64 a0_0,.int .i64 a0_1,.int .i64 a0_2]) (t:=41) ?hr ?_;(case hd=>rfl);(case hg=>rfl);(case hr=>first|(go_simp;done)|(go_simp;rfl));intro gb186 hg w11 hbox hb;have n_:=an_ (below_step (pB_ HB.out) hb)<|an_ (hbox)<|an_ ((by rw [hg];exact (below_size (pB_ HB.out)):w.heap.size≤gb186))<|Aside0.mk ((by rw [hg];exact (below_size (pB_ HB.out)):w.heap.size≤gb186));clear HB;obtain ⟨HB,BK186,GW186,GE186⟩:=n_;clear hb hbox hg;have hcz12_0:w11.cell? ⟨gb186,0,none⟩=some (.int .i64 a0_0):=(blk_cell BK186.out 0).trans rfl;have hcz12_1:w11.cell? ⟨gb186,1,none⟩=some (.int .i64 a0_1):=(blk_cell BK186.out 1).trans rfl;have hcz12_2:w11.cell? ⟨gb186,2,none⟩=some (.int .i64 a0_2):=(blk_cell BK186.out 2).trans rfl;have hfz12_0:=blk_frozen BK186.out 0;have hfz12_1:=blk_frozen BK186.out 1;have hfz12_2:=blk_frozen BK186.out 2)|((with_reducible refine gate_callee (f:=45) rfl ?_);refine goesL_ (some 11) rfl rfl Try.func45 (by kernel_rfl) rfl #[.int .i64 a0_0,.int .i64 a1,.int .i64 a2] rfl Z2 ?_;(with_reducible refine (impl_within.calls a0_0 a1 a2 true _ A4.out).mono ?_);rintro e w' ⟨rfl,⟨nd,rfl⟩⟩;refine ⟨_,rfl,?_⟩)|(go_at_call 45;(with_reducible refine (impl_within.calls a0_1 a1 a2 false _ A6.out).mono ?_);rintro e w' ⟨rfl,⟨nd,rfl⟩⟩))
   go_ret; exact ⟨by first | rfl | (simp [errW_none, errW_some] <;> rfl) | (simp [*, errW_none, errW_some] <;> rfl), pB_ HB.out⟩
 ·replace c5 := Bool.eq_false_iff.mpr c5
  subst c5; rw [if_neg (show ¬ (false = true) by decide)] at H; obtain rfl := Option.some.inj H; go_enter Try.func46, Try.ntmps46
  go_wp2_with (first|((with_reducible refine gate_dst (N:=3) rfl ?_);refine box_event ?hg (N:=3) ?hd (cs:=#[.int .i64 a0_0,.int .i64 a0_1,.int .i64 a0_2]) (t:=41) ?hr ?_;(case hd=>rfl);(case hg=>rfl);(case hr=>first|(go_simp;done)|(go_simp;rfl));intro gb186 hg w13 hbox hb;have n_:=an_ (below_step (pB_ HB.out) hb)<|an_ (hbox)<|an_ ((by rw [hg];exact (below_size (pB_ HB.out)):w.heap.size≤gb186))<|Aside0.mk ((by rw [hg];exact (below_size (pB_ HB.out)):w.heap.size≤gb186));clear HB;obtain ⟨HB,BK186,GW186,GE186⟩:=n_;clear hb hbox hg;have hcz14_0:w13.cell? ⟨gb186,0,none⟩=some (.int .i64 a0_0):=(blk_cell BK186.out 0).trans rfl;have hcz14_1:w13.cell? ⟨gb186,1,none⟩=some (.int .i64 a0_1):=(blk_cell BK186.out 1).trans rfl;have hcz14_2:w13.cell? ⟨gb186,2,none⟩=some (.int .i64 a0_2):=(blk_cell BK186.out 2).trans rfl;have hfz14_0:=blk_frozen BK186.out 0;have hfz14_1:=blk_frozen BK186.out 1;have hfz14_2:=blk_frozen BK186.out 2)|((with_reducible refine gate_callee (f:=45) rfl ?_);refine goesL_ (some 11) rfl rfl Try.func45 (by kernel_rfl) rfl #[.int .i64 a0_0,.int .i64 a1,.int .i64 a2] rfl Z2 ?_;(with_reducible refine (impl_within.calls a0_0 a1 a2 false _ A4.out).mono ?_);rintro e w' ⟨rfl,⟨nd,rfl⟩⟩;refine ⟨_,rfl,?_⟩))
  go_ret; exact ⟨by first | rfl | (simp [errW_none, errW_some] <;> rfl) | (simp [*, errW_none, errW_some] <;> rfl), pB_ HB.out⟩

/-! ### impl_ChargeOk: function 42 -/
def impl_ChargeOk.f (a0_0 : Int) (a0_1 : Int) (a0_2 : Int) : Option (Bool) := (impl_Vec_isFrom.f a0_0 a0_1 a0_2 1 2000).bind fun t191 => (some t191)
set_option maxHeartbeats 8000000 in
set_option maxRecDepth 100000 in
theorem impl_ChargeOk.calls (a0_0 : Int) (a0_1 : Int) (a0_2 : Int) (r : Bool) (w : World) (h : impl_ChargeOk.f a0_0 a0_1 a0_2 = some r) :
  Calls Try.prog 42 #[.agg #[.int .i64 a0_0, .int .i64 a0_1, .int .i64 a0_2]] w fun e w' => e = .returned (.bool r) ∧ Below w.heap.size w w' := by
 have hu41 := Try.underlying41
 have HB := Aside0.mk (Below.refl w.heap.size w)
 have H : ((impl_Vec_isFrom.f a0_0 a0_1 a0_2 1 2000).bind fun t191 => (some t191)) = some r := h
 clear h
 obtain ⟨t191, A20, H⟩ := Option.bind_eq_some_iff.mp H
 (try dsimp only at H)
 have A2 := Aside0.mk A20
 clear A20
 obtain rfl := Option.some.inj H
 go_enter Try.func42, Try.ntmps42
 go_wp2_with (first|((with_reducible refine gate_dst (N:=1) rfl ?_);refine box_event ?hg (N:=1) ?hd (cs:=#[.int .i64 a0_0,.int .i64 a0_1,.int .i64 a0_2]) (t:=41) ?hr ?_;(case hd=>rfl);(case hg=>rfl);(case hr=>first|(go_simp;done)|(go_simp;rfl));intro gb190 hg w3 hbox hb;have n_:=an_ (below_step (pB_ HB.out) hb)<|an_ (hbox)<|an_ ((by rw [hg];exact (below_size (pB_ HB.out)):w.heap.size≤gb190))<|Aside0.mk ((by rw [hg];exact (below_size (pB_ HB.out)):w.heap.size≤gb190));clear HB;obtain ⟨HB,BK190,GW190,GE190⟩:=n_;clear hb hbox hg;have hcz4_0:w3.cell? ⟨gb190,0,none⟩=some (.int .i64 a0_0):=(blk_cell BK190.out 0).trans rfl;have hcz4_1:w3.cell? ⟨gb190,1,none⟩=some (.int .i64 a0_1):=(blk_cell BK190.out 1).trans rfl;have hcz4_2:w3.cell? ⟨gb190,2,none⟩=some (.int .i64 a0_2):=(blk_cell BK190.out 2).trans rfl;have hfz4_0:=blk_frozen BK190.out 0;have hfz4_1:=blk_frozen BK190.out 1;have hfz4_2:=blk_frozen BK190.out 2)|((with_reducible refine gate_callee (f:=46) rfl ?_);refine goesL_ (some 4) rfl rfl Try.func46 (by kernel_rfl) rfl #[.agg #[.int .i64 a0_0,.int .i64 a0_1,.int .i64 a0_2],.int .i64 1,.int .i64 2000] rfl Z2 ?_;(with_reducible refine (impl_Vec_isFrom.calls a0_0 a0_1 a0_2 1 2000 t191 _ A2.out).mono ?_);rintro e w5 ⟨rfl,hb⟩;refine ⟨_,rfl,?_⟩;have n_:=an_ (blk_below (pk_ BK190.out) hb)<|Aside0.mk (below_step (pB_ HB.out) hb);clear BK190 HB;obtain ⟨BK190,HB⟩:=n_;(try clear hb);(try clear hb2);(try clear hk);(try clear hi)))
 go_ret
 exact ⟨by first | rfl | (simp [errW_none, errW_some] <;> rfl) | (simp [*, errW_none, errW_some] <;> rfl), pB_ HB.out⟩

/-! ### impl_isWeight: function 43 -/
def impl_isWeight.f (a0 : Int) : Option (Bool) := (impl_within.f a0 1 10).bind fun t192 => (some t192)
set_option maxHeartbeats 8000000 in
set_option maxRecDepth 100000 in
theorem impl_isWeight.calls (a0 : Int) (r : Bool) (w : World) (h : impl_isWeight.f a0 = some r) :
  Calls Try.prog 43 #[.int .i64 a0] w fun e w' => e = .returned (.bool r) ∧ Drawn0 w w' := by
 have H : ((impl_within.f a0 1 10).bind fun t192 => (some t192)) = some r := h
 clear h
 obtain ⟨t192, A20, H⟩ := Option.bind_eq_some_iff.mp H
 (try dsimp only at H)
 have A2 := Aside0.mk A20
 clear A20
 obtain rfl := Option.some.inj H
 go_enter Try.func43, Try.ntmps43
 go_wp2_with (first|((with_reducible refine gate_callee (f:=45) rfl ?_);refine goesL_ (some 4) rfl rfl Try.func45 (by kernel_rfl) rfl #[.int .i64 a0,.int .i64 1,.int .i64 10] rfl Z2 ?_;(with_reducible refine (impl_within.calls a0 1 10 t192 _ A2.out).mono ?_);rintro e w' ⟨rfl,⟨nd,rfl⟩⟩;refine ⟨_,rfl,?_⟩))
 go_ret
 exact ⟨by first | rfl | (simp; done) | (simp [*]; done), by repeat (first | exact Drawn0.refl _ | apply Drawn0.step)⟩

/-! ### slices_Index_int_int: function 47 -/
def slices_Index_int_int.l0 : Nat → List Int → Int → Int → Int → Option (Int)
 | 0, _, _, _, _ => none
 | k + 1,x0,x1,x7,x8=>if x8 < x7 then (if 0≤x8 then (if x8 < (x0.length:Int) then (if x1=(rd x0 x8) then (some x8) else (slices_Index_int_int.l0 k x0 x1 x7 (wrap64 (x8 + 1)))) else (none)) else (none)) else (some (-1))
def slices_Index_int_int.f (k : Nat) (l0 : List Int) (a1 : Int) : Option (Int) := slices_Index_int_int.l0 k l0 a1 (l0.length : Int) 0
set_option maxHeartbeats 8000000 in
set_option maxRecDepth 100000 in
theorem slices_Index_int_int.calls (k : Nat) (A0 : Option Addr) (c0 : Nat) (l0 : List Int) (a1 : Int) (r : Int) (w : World) (hr0 : Kd.C (Kd.int .i64) w A0 l0.length l0) (hc0 : l0.length ≤ c0) (h : slices_Index_int_int.f k l0 a1 = some r) :
  Calls Try.prog 47 #[.slice A0 l0.length c0, .int .i64 a1] w fun e w' => e = .returned (.int .i64 r) ∧ Drawn0 w w' := by
 have HR0 := Aside0.mk hr0
 have HC0 := Aside0.mk hc0
 clear hr0 hc0
 have H : (slices_Index_int_int.l0 k l0 a1 (l0.length : Int) 0) = some r := h
 clear h
 have H' := Aside0.mk H
 clear H
 go_enter Try.func47, Try.ntmps47
 go_wp2
 go_loopg [8] k (fun kq v8 w' => ∃ (x8_1 : Int), v8 = .int .i64 x8_1 ∧ Aside0 (slices_Index_int_int.l0 kq l0 a1 (l0.length : Int) x8_1 = some r) ∧ Aside0 (kq ≤ k) ∧ Drawn0 w w')
 case atStart => exact ⟨(0), Z9, H', ⟨Nat.le_refl _⟩, by repeat (first | exact Drawn0.refl _ | apply Drawn0.step)⟩
 case round =>
  clear H'
  try clear p2
  obtain ⟨x8_1, rfl, HA, HK1, ⟨m1, rfl⟩⟩ := hrel
  cases gk with
  | zero => exact absurd HA.out (by simp [slices_Index_int_int.l0])
  | succ k1 =>
   have H := HA.out; clear HA; simp only [slices_Index_int_int.l0] at H
   by_cases c3 : x8_1 < (l0.length : Int)
   ·rw [if_pos c3] at H
    have c3b0 : decide (x8_1 < (l0.length : Int)) = true := decide_eq_true c3; clear c3
    by_cases c4 : 0 ≤ x8_1
    ·rw [if_pos c4] at H
     have c4b0 : decide (0 ≤ x8_1) = true := decide_eq_true c4; clear c4
     by_cases c5 : x8_1 < (l0.length : Int)
     ·rw [if_pos c5] at H
      have c5b0:decide (x8_1 < (l0.length:Int))=true:=decide_eq_true c5;clear c5;have HU6:=Aside0.mk H;clear H;have p193:0≤(x8_1:Int):=of_decide_eq_true Z8;have q193:x8_1 < (l0.length:Int):=of_decide_eq_true Z8;obtain ⟨ad193,e193,hx193_0⟩:=Kd.at_int HR0.out x8_1 p193 q193;cases e193;replace p193:=eq_true p193;replace q193:=eq_true q193
      go_upto_if 16 with (fail)
      have H := HU6.out; clear HU6
      by_cases c7 : a1 = (rd l0 x8_1)
      ·rw [if_pos c7] at H
       have c7b0:(a1 == (rd l0 x8_1))=true:=beq_iff_eq.mpr c7;have c7b1:(a1 != (rd l0 x8_1))=false:=bne_eq_false_iff_eq.mpr c7;clear c7;(first|rw [c7b0]|(simp only [i64_w,i32_w];rw [c7b0])|(have cz_:=c7b0;simp only [bne,gt_iff_lt,Int.natCast_pos] at cz_;first|rw [cz_]|(simp only [i64_w,i32_w];rw [cz_]))|skip);obtain rfl:=Option.some.inj H
       go_wp2
       go_ret; exact ⟨by first | rfl | (simp; done) | (simp [*]; done), by repeat (first | exact Drawn0.refl _ | apply Drawn0.step)⟩
      ·rw [if_neg c7] at H
       have c7b0:(a1 == (rd l0 x8_1))=false:=beq_eq_false_iff_ne.mpr c7;have c7b1:(a1 != (rd l0 x8_1))=true:=bne_iff_ne.mpr c7;(first|rw [c7b0]|(simp only [i64_w,i32_w];rw [c7b0])|(have cz_:=c7b0;simp only [bne,gt_iff_lt,Int.natCast_pos] at cz_;first|rw [cz_]|(simp only [i64_w,i32_w];rw [cz_]))|skip);have H':=Aside0.mk H;clear H
       go_wp2
       go_roundg k1
       case measure => have := HK1.out; omega
       case rel => exact ⟨(wrap64 (x8_1 + 1)), Z9, H', ⟨by have := HK1.out; omega⟩, by repeat (first | exact Drawn0.refl _ | apply Drawn0.step)⟩
     ·rw [if_neg c5] at H
      exact absurd H (by simp)
    ·rw [if_neg c4] at H
     exact absurd H (by simp)
   ·rw [if_neg c3] at H
    have c3b0 : decide (x8_1 < (l0.length : Int)) = false := decide_eq_false c3; clear c3; obtain rfl := Option.some.inj H
    go_wp2
    go_ret; exact ⟨by first | rfl | (simp; done) | (simp [*]; done), by repeat (first | exact Drawn0.refl _ | apply Drawn0.step)⟩

/-! ### slices_Contains_int_int: function 44 -/
def slices_Contains_int_int.f (k : Nat) (l0 : List Int) (a1 : Int) : Option (Bool) := (slices_Index_int_int.f k l0 a1).bind fun t194 => (some (decide (t194 ≥ 0)))
set_option maxHeartbeats 8000000 in
set_option maxRecDepth 100000 in
theorem slices_Contains_int_int.calls (k : Nat) (A0 : Option Addr) (c0 : Nat) (l0 : List Int) (a1 : Int) (r : Bool) (w : World) (hr0 : Kd.C (Kd.int .i64) w A0 l0.length l0) (hc0 : l0.length ≤ c0) (h : slices_Contains_int_int.f k l0 a1 = some r) :
  Calls Try.prog 44 #[.slice A0 l0.length c0, .int .i64 a1] w fun e w' => e = .returned (.bool r) ∧ Drawn0 w w' := by
 have HR0 := Aside0.mk hr0
 have HC0 := Aside0.mk hc0
 clear hr0 hc0
 have H : ((slices_Index_int_int.f k l0 a1).bind fun t194 => (some (decide (t194 ≥ 0)))) = some r := h
 clear h
 obtain ⟨t194, A30, H⟩ := Option.bind_eq_some_iff.mp H
 (try dsimp only at H)
 have A3 := Aside0.mk A30
 clear A30
 obtain rfl := Option.some.inj H
 go_enter Try.func44, Try.ntmps44
 go_wp2_with (first|((with_reducible refine gate_callee (f:=47) rfl ?_);refine goesL_ (some 7) rfl rfl Try.func47 (by kernel_rfl) rfl #[.slice A0 l0.length c0,.int .i64 a1] rfl Z2 ?_;(with_reducible refine (slices_Index_int_int.calls k _ _ l0 a1 t194 _ ?side1 ?side2 A3.out).mono ?_);(case side1=>exact pC_ HR0.out);(case side2=>exact HC0.out);rintro e w' ⟨rfl,⟨nd,rfl⟩⟩;refine ⟨_,rfl,?_⟩))
 go_ret
 exact ⟨by first | rfl | (simp; done) | (simp [*]; done), by repeat (first | exact Drawn0.refl _ | apply Drawn0.step)⟩

/-! ### impl_dealOk: function 38 -/
def impl_dealOk.l0 : Nat → List Int → Int → Int → Int → Int → Int → Int → Int → List Int → Option (Bool)
 | 0, _, _, _, _, _, _, _, _, _ => none
 | k + 1,x6,x7,x8,x196000,x196001,x196002,x196003,x196004,x196005=>if x8 < x7 then (if 0≤x8 then (if x8 < (x6.length:Int) then ((impl_isFlow.f (rd x6 x8)).bind fun t197=>(if t197=true then (if x8 > 0 then (if 0≤(wrap64 (x8 - 1)) then (if (wrap64 (x8 - 1)) < (x196005.length:Int) then (if (rd x196005 (wrap64 (x8 - 1))) ≥ (rd x6 x8) then (some false) else (impl_dealOk.l0 k x6 x7 (wrap64 (x8 + 1)) x196000 x196001 x196002 x196003 x196004 x196005)) else (none)) else (none)) else (impl_dealOk.l0 k x6 x7 (wrap64 (x8 + 1)) x196000 x196001 x196002 x196003 x196004 x196005)) else (some false))) else (none)) else (none)) else ((impl_ChargeOk.f x196002 x196003 x196004).bind fun t199=>(if t199=true then ((impl_isWeight.f x196001).bind fun t200=>(if t200=true then ((slices_Contains_int_int.f k x196005 x196000).bind fun t201=>(some t201)) else (some false))) else (some false)))
def impl_dealOk.f (k : Nat) (a0_0 : Int) (a0_1 : Int) (a0_2 : Int) (a0_3 : Int) (a0_4 : Int) (l0_5 : List Int) : Option (Bool) := impl_dealOk.l0 k l0_5 (l0_5.length : Int) 0 a0_0 a0_1 a0_2 a0_3 a0_4 l0_5
set_option maxHeartbeats 8000000 in
set_option maxRecDepth 100000 in
theorem impl_dealOk.calls (k : Nat) (a0_0 : Int) (a0_1 : Int) (a0_2 : Int) (a0_3 : Int) (a0_4 : Int) (A0_5 : Option Addr) (c0_5 : Nat) (l0_5 : List Int) (r : Bool) (w : World) (hr0_5 : Kd.C (Kd.int .i64) w A0_5 l0_5.length l0_5) (hc0_5 : l0_5.length ≤ c0_5) (h : impl_dealOk.f k a0_0 a0_1 a0_2 a0_3 a0_4 l0_5 = some r) :
  Calls Try.prog 38 #[.agg #[.int .i64 a0_0,.int .i64 a0_1,.int .i64 a0_2,.int .i64 a0_3,.int .i64 a0_4,.slice A0_5 l0_5.length c0_5]] w fun e w'=>e=.returned (.bool r)∧Below w.heap.size w w':=by
 have hu43 := Try.underlying43
 have hu41 := Try.underlying41
 have HR0_5 := Aside0.mk hr0_5
 have HC0_5 := Aside0.mk hc0_5
 clear hr0_5 hc0_5
 have HB := Aside0.mk (Below.refl w.heap.size w)
 have H : (impl_dealOk.l0 k l0_5 (l0_5.length : Int) 0 a0_0 a0_1 a0_2 a0_3 a0_4 l0_5) = some r := h
 clear h
 have H' := Aside0.mk H
 clear H
 go_enter Try.func38, Try.ntmps38
 go_wp2_with (first|((with_reducible refine gate_dst (N:=1) rfl ?_);refine box_event ?hg (N:=1) ?hd (cs:=#[.int .i64 a0_0,.int .i64 a0_1,.int .i64 a0_2,.int .i64 a0_3,.int .i64 a0_4,.slice A0_5 l0_5.length c0_5]) (t:=43) ?hr ?_;(case hd=>rfl);(case hg=>rfl);(case hr=>first|(go_simp;done)|(go_simp;rfl));intro gb195 hg w2 hbox hb;have n_:=an_ (below_step (pB_ HB.out) hb)<|an_ (hbox)<|an_ ((by rw [hg];exact (below_size (pB_ HB.out)):w.heap.size≤gb195))<|Aside0.mk ((by rw [hg];exact (below_size (pB_ HB.out)):w.heap.size≤gb195));clear HB;obtain ⟨HB,BK195,GW195,GE195⟩:=n_;clear hb hbox hg;have hcz3_0:w2.cell? ⟨gb195,0,none⟩=some (.int .i64 a0_0):=(blk_cell BK195.out 0).trans rfl;have hcz3_1:w2.cell? ⟨gb195,1,none⟩=some (.int .i64 a0_1):=(blk_cell BK195.out 1).trans rfl;have hcz3_2:w2.cell? ⟨gb195,2,none⟩=some (.int .i64 a0_2):=(blk_cell BK195.out 2).trans rfl;have hcz3_3:w2.cell? ⟨gb195,3,none⟩=some (.int .i64 a0_3):=(blk_cell BK195.out 3).trans rfl;have hcz3_4:w2.cell? ⟨gb195,4,none⟩=some (.int .i64 a0_4):=(blk_cell BK195.out 4).trans rfl;have hcz3_5:w2.cell? ⟨gb195,5,none⟩=some (.slice A0_5 l0_5.length c0_5):=(blk_cell BK195.out 5).trans rfl;have hfz3_0:=blk_frozen BK195.out 0;have hfz3_1:=blk_frozen BK195.out 1;have hfz3_2:=blk_frozen BK195.out 2;have hfz3_3:=blk_frozen BK195.out 3;have hfz3_4:=blk_frozen BK195.out 4;have hfz3_5:=blk_frozen BK195.out 5))
 go_loopg [8] k (fun kq v8 w'=>∃ (x8_1:Int),v8=.int .i64 x8_1∧Aside0 (impl_dealOk.l0 kq l0_5 (l0_5.length:Int) x8_1 a0_0 a0_1 a0_2 a0_3 a0_4 l0_5=some r)∧Aside0 (kq≤k)∧Aside0 (w'.heap[gb195]?=some (.cells #[.int .i64 a0_0,.int .i64 a0_1,.int .i64 a0_2,.int .i64 a0_3,.int .i64 a0_4,(.slice A0_5 l0_5.length c0_5)] 43 (0,0)))∧Aside0 (Below w.heap.size w w'))
 case atStart => exact ⟨(0), Z9, H', ⟨Nat.le_refl _⟩, ⟨pk_ BK195.out⟩, ⟨pB_ HB.out⟩⟩
 case round =>
  clear H'
  try clear p2
  try clear c3
  try clear hcz3_0 hcz3_1 hcz3_2 hcz3_3 hcz3_4 hcz3_5 hfz3_0 hfz3_1 hfz3_2 hfz3_3 hfz3_4 hfz3_5
  obtain ⟨x8_1, rfl, HA, HK1, BK195, HB⟩ := hrel
  cases gk with
  | zero => exact absurd HA.out (by simp [impl_dealOk.l0])
  | succ k1 =>
   have H := HA.out; clear HA; simp only [impl_dealOk.l0] at H
   by_cases c4 : x8_1 < (l0_5.length : Int)
   ·rw [if_pos c4] at H
    have c4b0 : decide (x8_1 < (l0_5.length : Int)) = true := decide_eq_true c4; clear c4
    by_cases c5 : 0 ≤ x8_1
    ·rw [if_pos c5] at H
     have c5b0 : decide (0 ≤ x8_1) = true := decide_eq_true c5; clear c5
     by_cases c6 : x8_1 < (l0_5.length : Int)
     ·rw [if_pos c6] at H
      have c6b0:decide (x8_1 < (l0_5.length:Int))=true:=decide_eq_true c6;clear c6;obtain ⟨t197,A70,H⟩:=Option.bind_eq_some_iff.mp H;(try dsimp only at H);have A7:=Aside0.mk A70;clear A70
      by_cases c8 : t197 = true
      ·subst c8
       rw [if_pos rfl] at H
       by_cases c9 : x8_1 > 0
       ·rw [if_pos c9] at H
        have c9b0 : decide (0 < x8_1) = true := decide_eq_true c9; clear c9; obtain ⟨ji10, hji10⟩ : ∃ j_ : Int, (wrap64 (x8_1 - 1)) = j_ := ⟨_, rfl⟩
        replace H:(if 0≤(ji10) then (if (ji10) < (l0_5.length:Int) then (if (rd l0_5 (ji10)) ≥ (rd l0_5 x8_1) then (some false) else (impl_dealOk.l0 k1 l0_5 (l0_5.length:Int) (wrap64 (x8_1 + 1)) a0_0 a0_1 a0_2 a0_3 a0_4 l0_5)) else (none)) else (none))=some r:=by first|(rw [hji10] at H;exact H)|(simp only [hji10] at H ⊢;exact H)
        (try rw [hji10] at A7); have hji10w : (IntKind.i64.wrap (x8_1 - 1)) = ji10 := (i64_w _).trans hji10
        by_cases c11 : 0 ≤ (ji10)
        ·rw [if_pos c11] at H
         have c11b0 : decide (0 ≤ (ji10)) = true := decide_eq_true c11; clear c11
         by_cases c12 : (ji10) < (l0_5.length : Int)
         ·rw [if_pos c12] at H
          have c12b0:decide ((ji10) < (l0_5.length:Int))=true:=decide_eq_true c12;clear c12;have HU13:=Aside0.mk H;clear H;have p196:0≤(x8_1:Int):=of_decide_eq_true Z8;have q196:x8_1 < (l0_5.length:Int):=of_decide_eq_true Z8;obtain ⟨ad196,e196,hx196_0⟩:=Kd.at_int HR0_5.out x8_1 p196 q196;cases e196;replace hx196_0:=(HB.out.cell (World.block_lt_of_cell? w _ hx196_0)).trans hx196_0;replace p196:=eq_true p196;replace q196:=eq_true q196
          go_upto_if 29 with (first|((with_reducible refine gate_callee (f:=41) rfl ?_);refine goesL_ (some 14) rfl rfl Try.func41 (by kernel_rfl) rfl #[.int .i64 (rd l0_5 x8_1)] rfl Z2 ?_;(with_reducible refine (impl_isFlow.calls (rd l0_5 x8_1) true _ A7.out).mono ?_);rintro e w' ⟨rfl,⟨nd,rfl⟩⟩;refine ⟨_,rfl,?_⟩;have hcz14_0:wr.cell? ⟨gb195,0,none⟩=some (.int .i64 a0_0):=(blk_cell BK195.out 0).trans rfl;have hcz14_1:wr.cell? ⟨gb195,1,none⟩=some (.int .i64 a0_1):=(blk_cell BK195.out 1).trans rfl;have hcz14_2:wr.cell? ⟨gb195,2,none⟩=some (.int .i64 a0_2):=(blk_cell BK195.out 2).trans rfl;have hcz14_3:wr.cell? ⟨gb195,3,none⟩=some (.int .i64 a0_3):=(blk_cell BK195.out 3).trans rfl;have hcz14_4:wr.cell? ⟨gb195,4,none⟩=some (.int .i64 a0_4):=(blk_cell BK195.out 4).trans rfl;have hcz14_5:wr.cell? ⟨gb195,5,none⟩=some (.slice (some ad196) l0_5.length c0_5):=(blk_cell BK195.out 5).trans rfl;have hfz14_0:=blk_frozen BK195.out 0;have hfz14_1:=blk_frozen BK195.out 1;have hfz14_2:=blk_frozen BK195.out 2;have hfz14_3:=blk_frozen BK195.out 3;have hfz14_4:=blk_frozen BK195.out 4;have hfz14_5:=blk_frozen BK195.out 5;have p198:0≤((ji10):Int):=of_decide_eq_true Z8;have q198:(ji10) < (l0_5.length:Int):=of_decide_eq_true Z8;obtain ⟨ad198,e198,hx198_0⟩:=Kd.at_int HR0_5.out (ji10) p198 q198;obtain rfl:ad196=ad198:=(by injection e198);replace hx198_0:=(HB.out.cell (World.block_lt_of_cell? w _ hx198_0)).trans hx198_0;replace p198:=eq_true p198;replace q198:=eq_true q198))
          have H := HU13.out; clear HU13
          by_cases c15 : (rd l0_5 (ji10)) ≥ (rd l0_5 x8_1)
          ·rw [if_pos c15] at H
           have c15b0:decide ((rd l0_5 x8_1)≤(rd l0_5 (ji10)))=true:=decide_eq_true c15;clear c15;(first|rw [c15b0]|(simp only [i64_w,i32_w];rw [c15b0])|(have cz_:=c15b0;simp only [bne,gt_iff_lt,Int.natCast_pos] at cz_;first|rw [cz_]|(simp only [i64_w,i32_w];rw [cz_]))|skip);obtain rfl:=Option.some.inj H
           go_wp2
           go_ret;exact ⟨by first|rfl|(simp [errW_none,errW_some] <;> rfl)|(simp only [← hji10];first|rfl|(simp [errW_none,errW_some] <;> rfl))|(simp [*,errW_none,errW_some] <;> rfl),pB_ HB.out⟩
          ·rw [if_neg c15] at H
           have c15b0:decide ((rd l0_5 x8_1)≤(rd l0_5 (ji10)))=false:=decide_eq_false c15;clear c15;(first|rw [c15b0]|(simp only [i64_w,i32_w];rw [c15b0])|(have cz_:=c15b0;simp only [bne,gt_iff_lt,Int.natCast_pos] at cz_;first|rw [cz_]|(simp only [i64_w,i32_w];rw [cz_]))|skip);have H':=Aside0.mk H;clear H
           go_wp2
           go_roundg k1
           case measure => have := HK1.out; omega
           case rel => exact ⟨(wrap64 (x8_1 + 1)), Z9, H', ⟨by have := HK1.out; omega⟩, ⟨pk_ BK195.out⟩, ⟨pB_ HB.out⟩⟩
         ·rw [if_neg c12] at H
          exact absurd H (by simp)
        ·rw [if_neg c11] at H
         exact absurd H (by simp)
       ·rw [if_neg c9] at H
        have c9b0:decide (0 < x8_1)=false:=decide_eq_false c9;clear c9;have H':=Aside0.mk H;clear H;have p196:0≤(x8_1:Int):=of_decide_eq_true Z8;have q196:x8_1 < (l0_5.length:Int):=of_decide_eq_true Z8;obtain ⟨ad196,e196,hx196_0⟩:=Kd.at_int HR0_5.out x8_1 p196 q196;cases e196;replace hx196_0:=(HB.out.cell (World.block_lt_of_cell? w _ hx196_0)).trans hx196_0;replace p196:=eq_true p196;replace q196:=eq_true q196
        go_wp2_with (first|((with_reducible refine gate_callee (f:=41) rfl ?_);refine goesL_ (some 14) rfl rfl Try.func41 (by kernel_rfl) rfl #[.int .i64 (rd l0_5 x8_1)] rfl Z2 ?_;(with_reducible refine (impl_isFlow.calls (rd l0_5 x8_1) true _ A7.out).mono ?_);rintro e w' ⟨rfl,⟨nd,rfl⟩⟩;refine ⟨_,rfl,?_⟩))
        go_roundg k1
        case measure => have := HK1.out; omega
        case rel => exact ⟨(wrap64 (x8_1 + 1)), Z9, H', ⟨by have := HK1.out; omega⟩, ⟨pk_ BK195.out⟩, ⟨pB_ HB.out⟩⟩
      ·replace c8 := Bool.eq_false_iff.mpr c8
       subst c8;rw [if_neg (show ¬ (false=true) by decide)] at H;obtain rfl:=Option.some.inj H;have p196:0≤(x8_1:Int):=of_decide_eq_true Z8;have q196:x8_1 < (l0_5.length:Int):=of_decide_eq_true Z8;obtain ⟨ad196,e196,hx196_0⟩:=Kd.at_int HR0_5.out x8_1 p196 q196;cases e196;replace hx196_0:=(HB.out.cell (World.block_lt_of_cell? w _ hx196_0)).trans hx196_0;replace p196:=eq_true p196;replace q196:=eq_true q196
       go_wp2_with (first|((with_reducible refine gate_callee (f:=41) rfl ?_);refine goesL_ (some 14) rfl rfl Try.func41 (by kernel_rfl) rfl #[.int .i64 (rd l0_5 x8_1)] rfl Z2 ?_;(with_reducible refine (impl_isFlow.calls (rd l0_5 x8_1) false _ A7.out).mono ?_);rintro e w' ⟨rfl,⟨nd,rfl⟩⟩;refine ⟨_,rfl,?_⟩))
       go_ret; exact ⟨by first | rfl | (simp [errW_none, errW_some] <;> rfl) | (simp [*, errW_none, errW_some] <;> rfl), pB_ HB.out⟩
     ·rw [if_neg c6] at H
      exact absurd H (by simp)
    ·rw [if_neg c5] at H
     exact absurd H (by simp)
   ·rw [if_neg c4] at H
    have c4b0:decide (x8_1 < (l0_5.length:Int))=false:=decide_eq_false c4;clear c4;obtain ⟨t199,A160,H⟩:=Option.bind_eq_some_iff.mp H;(try dsimp only at H);have A16:=Aside0.mk A160;clear A160
    by_cases c17 : t199 = true
    ·subst c17
     rw [if_pos rfl] at H; obtain ⟨t200, A180, H⟩ := Option.bind_eq_some_iff.mp H; (try dsimp only at H); have A18 := Aside0.mk A180; clear A180
     by_cases c19 : t200 = true
     ·subst c19
      rw [if_pos rfl] at H;obtain ⟨t201,A200,H⟩:=Option.bind_eq_some_iff.mp H;(try dsimp only at H);have A20:=Aside0.mk A200;clear A200;obtain rfl:=Option.some.inj H;obtain ⟨hcz21_0,hcz21_1,hcz21_2,hcz21_3,hcz21_4,hcz21_5,hfz21_0,hfz21_1,hfz21_2,hfz21_3,hfz21_4,hfz21_5⟩:=cells6 BK195.out
      go_wp2_with (first|((with_reducible refine gate_callee (f:=42) rfl ?_);refine goesL_ (some 33) rfl rfl Try.func42 (by kernel_rfl) rfl #[.agg #[.int .i64 a0_2,.int .i64 a0_3,.int .i64 a0_4]] rfl Z2 ?_;(with_reducible refine (impl_ChargeOk.calls a0_2 a0_3 a0_4 true _ A16.out).mono ?_);rintro e w22 ⟨rfl,hb⟩;refine ⟨_,rfl,?_⟩;have n_:=an_ (blk_below (pk_ BK195.out) hb)<|Aside0.mk (below_step (pB_ HB.out) hb);clear BK195 HB;obtain ⟨BK195,HB⟩:=n_;(try clear hb);(try clear hb2);(try clear hk);(try clear hi);have hcz23_0:w22.cell? ⟨gb195,0,none⟩=some (.int .i64 a0_0):=(blk_cell BK195.out 0).trans rfl;have hcz23_1:w22.cell? ⟨gb195,1,none⟩=some (.int .i64 a0_1):=(blk_cell BK195.out 1).trans rfl;have hcz23_2:w22.cell? ⟨gb195,2,none⟩=some (.int .i64 a0_2):=(blk_cell BK195.out 2).trans rfl;have hcz23_3:w22.cell? ⟨gb195,3,none⟩=some (.int .i64 a0_3):=(blk_cell BK195.out 3).trans rfl;have hcz23_4:w22.cell? ⟨gb195,4,none⟩=some (.int .i64 a0_4):=(blk_cell BK195.out 4).trans rfl;have hcz23_5:w22.cell? ⟨gb195,5,none⟩=some (.slice A0_5 l0_5.length c0_5):=(blk_cell BK195.out 5).trans rfl;have hfz23_0:=blk_frozen BK195.out 0;have hfz23_1:=blk_frozen BK195.out 1;have hfz23_2:=blk_frozen BK195.out 2;have hfz23_3:=blk_frozen BK195.out 3;have hfz23_4:=blk_frozen BK195.out 4;have hfz23_5:=blk_frozen BK195.out 5)|(go_at_call 43;(with_reducible refine (impl_isWeight.calls a0_1 true _ A18.out).mono ?_);rintro e w' ⟨rfl,⟨nd,rfl⟩⟩)|(go_at_call 44;(with_reducible refine (slices_Contains_int_int.calls k1 _ _ l0_5 a0_0 t201 _ ?side1 ?side2 A20.out).mono ?_);(case side1=>exact pC_ (Kd.C_below HR0_5.out (pB_ HB.out)));(case side2=>exact HC0_5.out);rintro e w' ⟨rfl,⟨nd,rfl⟩⟩))
      go_ret; exact ⟨by first | rfl | (simp [errW_none, errW_some] <;> rfl) | (simp [*, errW_none, errW_some] <;> rfl), pB_ HB.out⟩
     ·replace c19 := Bool.eq_false_iff.mpr c19
      subst c19;rw [if_neg (show ¬ (false=true) by decide)] at H;obtain rfl:=Option.some.inj H;obtain ⟨hcz24_0,hcz24_1,hcz24_2,hcz24_3,hcz24_4,hcz24_5,hfz24_0,hfz24_1,hfz24_2,hfz24_3,hfz24_4,hfz24_5⟩:=cells6 BK195.out
      go_wp2_with (first|((with_reducible refine gate_callee (f:=42) rfl ?_);refine goesL_ (some 33) rfl rfl Try.func42 (by kernel_rfl) rfl #[.agg #[.int .i64 a0_2,.int .i64 a0_3,.int .i64 a0_4]] rfl Z2 ?_;(with_reducible refine (impl_ChargeOk.calls a0_2 a0_3 a0_4 true _ A16.out).mono ?_);rintro e w25 ⟨rfl,hb⟩;refine ⟨_,rfl,?_⟩;have n_:=an_ (blk_below (pk_ BK195.out) hb)<|Aside0.mk (below_step (pB_ HB.out) hb);clear BK195 HB;obtain ⟨BK195,HB⟩:=n_;(try clear hb);(try clear hb2);(try clear hk);(try clear hi);have hcz26_0:w25.cell? ⟨gb195,0,none⟩=some (.int .i64 a0_0):=(blk_cell BK195.out 0).trans rfl;have hcz26_1:w25.cell? ⟨gb195,1,none⟩=some (.int .i64 a0_1):=(blk_cell BK195.out 1).trans rfl;have hcz26_2:w25.cell? ⟨gb195,2,none⟩=some (.int .i64 a0_2):=(blk_cell BK195.out 2).trans rfl;have hcz26_3:w25.cell? ⟨gb195,3,none⟩=some (.int .i64 a0_3):=(blk_cell BK195.out 3).trans rfl;have hcz26_4:w25.cell? ⟨gb195,4,none⟩=some (.int .i64 a0_4):=(blk_cell BK195.out 4).trans rfl;have hcz26_5:w25.cell? ⟨gb195,5,none⟩=some (.slice A0_5 l0_5.length c0_5):=(blk_cell BK195.out 5).trans rfl;have hfz26_0:=blk_frozen BK195.out 0;have hfz26_1:=blk_frozen BK195.out 1;have hfz26_2:=blk_frozen BK195.out 2;have hfz26_3:=blk_frozen BK195.out 3;have hfz26_4:=blk_frozen BK195.out 4;have hfz26_5:=blk_frozen BK195.out 5)|(go_at_call 43;(with_reducible refine (impl_isWeight.calls a0_1 false _ A18.out).mono ?_);rintro e w' ⟨rfl,⟨nd,rfl⟩⟩))
      go_ret; exact ⟨by first | rfl | (simp [errW_none, errW_some] <;> rfl) | (simp [*, errW_none, errW_some] <;> rfl), pB_ HB.out⟩
    ·replace c17 := Bool.eq_false_iff.mpr c17
     subst c17;rw [if_neg (show ¬ (false=true) by decide)] at H;obtain rfl:=Option.some.inj H;obtain ⟨hcz27_0,hcz27_1,hcz27_2,hcz27_3,hcz27_4,hcz27_5,hfz27_0,hfz27_1,hfz27_2,hfz27_3,hfz27_4,hfz27_5⟩:=cells6 BK195.out
     go_wp2_with (first|((with_reducible refine gate_callee (f:=42) rfl ?_);refine goesL_ (some 33) rfl rfl Try.func42 (by kernel_rfl) rfl #[.agg #[.int .i64 a0_2,.int .i64 a0_3,.int .i64 a0_4]] rfl Z2 ?_;(with_reducible refine (impl_ChargeOk.calls a0_2 a0_3 a0_4 false _ A16.out).mono ?_);rintro e w28 ⟨rfl,hb⟩;refine ⟨_,rfl,?_⟩;have n_:=an_ (blk_below (pk_ BK195.out) hb)<|Aside0.mk (below_step (pB_ HB.out) hb);clear BK195 HB;obtain ⟨BK195,HB⟩:=n_;(try clear hb);(try clear hb2);(try clear hk);(try clear hi)))
     go_ret; exact ⟨by first | rfl | (simp [errW_none, errW_some] <;> rfl) | (simp [*, errW_none, errW_some] <;> rfl), pB_ HB.out⟩

/-! ### impl_DealsOk_1: function 37 -/
def impl_DealsOk_1.f (k : Nat) (a0_0 : Int) (a0_1 : Int) (a0_2 : Int) (a0_3 : Int) (a0_4 : Int) (l0_5 : List Int) : Option (Bool) := (impl_dealOk.f k a0_0 a0_1 a0_2 a0_3 a0_4 l0_5).bind fun t203 => (some (!t203))
set_option maxHeartbeats 8000000 in
set_option maxRecDepth 100000 in
theorem impl_DealsOk_1.calls (k : Nat) (a0_0 : Int) (a0_1 : Int) (a0_2 : Int) (a0_3 : Int) (a0_4 : Int) (A0_5 : Option Addr) (c0_5 : Nat) (l0_5 : List Int) (r : Bool) (w : World) (hr0_5 : Kd.C (Kd.int .i64) w A0_5 l0_5.length l0_5) (hc0_5 : l0_5.length ≤ c0_5) (h : impl_DealsOk_1.f k a0_0 a0_1 a0_2 a0_3 a0_4 l0_5 = some r) :
  Calls Try.prog 37 #[.agg #[.int .i64 a0_0,.int .i64 a0_1,.int .i64 a0_2,.int .i64 a0_3,.int .i64 a0_4,.slice A0_5 l0_5.length c0_5]] w fun e w'=>e=.returned (.bool r)∧Below w.heap.size w w':=by
 have hu43 := Try.underlying43
 have HR0_5 := Aside0.mk hr0_5
 have HC0_5 := Aside0.mk hc0_5
 clear hr0_5 hc0_5
 have HB := Aside0.mk (Below.refl w.heap.size w)
 have H : ((impl_dealOk.f k a0_0 a0_1 a0_2 a0_3 a0_4 l0_5).bind fun t203 => (some (!t203))) = some r := h
 clear h
 obtain ⟨t203, A20, H⟩ := Option.bind_eq_some_iff.mp H
 (try dsimp only at H)
 have A2 := Aside0.mk A20
 clear A20
 obtain rfl := Option.some.inj H
 go_enter Try.func37, Try.ntmps37
 go_wp2_with (first|((with_reducible refine gate_dst (N:=1) rfl ?_);refine box_event ?hg (N:=1) ?hd (cs:=#[.int .i64 a0_0,.int .i64 a0_1,.int .i64 a0_2,.int .i64 a0_3,.int .i64 a0_4,.slice A0_5 l0_5.length c0_5]) (t:=43) ?hr ?_;(case hd=>rfl);(case hg=>rfl);(case hr=>first|(go_simp;done)|(go_simp;rfl));intro gb202 hg w3 hbox hb;have n_:=an_ (below_step (pB_ HB.out) hb)<|an_ (hbox)<|an_ ((by rw [hg];exact (below_size (pB_ HB.out)):w.heap.size≤gb202))<|Aside0.mk ((by rw [hg];exact (below_size (pB_ HB.out)):w.heap.size≤gb202));clear HB;obtain ⟨HB,BK202,GW202,GE202⟩:=n_;clear hb hbox hg;have hcz4_0:w3.cell? ⟨gb202,0,none⟩=some (.int .i64 a0_0):=(blk_cell BK202.out 0).trans rfl;have hcz4_1:w3.cell? ⟨gb202,1,none⟩=some (.int .i64 a0_1):=(blk_cell BK202.out 1).trans rfl;have hcz4_2:w3.cell? ⟨gb202,2,none⟩=some (.int .i64 a0_2):=(blk_cell BK202.out 2).trans rfl;have hcz4_3:w3.cell? ⟨gb202,3,none⟩=some (.int .i64 a0_3):=(blk_cell BK202.out 3).trans rfl;have hcz4_4:w3.cell? ⟨gb202,4,none⟩=some (.int .i64 a0_4):=(blk_cell BK202.out 4).trans rfl;have hcz4_5:w3.cell? ⟨gb202,5,none⟩=some (.slice A0_5 l0_5.length c0_5):=(blk_cell BK202.out 5).trans rfl;have hfz4_0:=blk_frozen BK202.out 0;have hfz4_1:=blk_frozen BK202.out 1;have hfz4_2:=blk_frozen BK202.out 2;have hfz4_3:=blk_frozen BK202.out 3;have hfz4_4:=blk_frozen BK202.out 4;have hfz4_5:=blk_frozen BK202.out 5)|((with_reducible refine gate_callee (f:=38) rfl ?_);refine goesL_ (some 4) rfl rfl Try.func38 (by kernel_rfl) rfl #[.agg #[.int .i64 a0_0,.int .i64 a0_1,.int .i64 a0_2,.int .i64 a0_3,.int .i64 a0_4,.slice A0_5 l0_5.length c0_5]] rfl Z2 ?_;(with_reducible refine (impl_dealOk.calls k a0_0 a0_1 a0_2 a0_3 a0_4 _ _ l0_5 t203 _ ?side1 ?side2 A2.out).mono ?_);(case side1=>exact pC_ (Kd.C_below HR0_5.out HB.out));(case side2=>exact HC0_5.out);rintro e w5 ⟨rfl,hb⟩;refine ⟨_,rfl,?_⟩;have n_:=an_ (blk_below (pk_ BK202.out) hb)<|Aside0.mk (below_step (pB_ HB.out) hb);clear BK202 HB;obtain ⟨BK202,HB⟩:=n_;(try clear hb);(try clear hb2);(try clear hk);(try clear hi)))
 go_ret
 exact ⟨by first | rfl | (simp [errW_none, errW_some] <;> rfl) | (simp [*, errW_none, errW_some] <;> rfl), pB_ HB.out⟩

/-! ### impl_DealsOk: function 28 -/
def impl_DealsOk.f (k : Nat) (l0 : List (S43)) : Option (Bool) := if (l0.length : Int) ≤ 200 then ((slices_ContainsFunc_impl_Deal_impl_Deal.f k l0 (fun z0_ z1_ z2_ z3_ z4_ z5_ => impl_DealsOk_1.f k z0_ z1_ z2_ z3_ z4_ z5_)).bind fun t204 => (some (!t204))) else (some false)
set_option maxHeartbeats 8000000 in
set_option maxRecDepth 100000 in
theorem impl_DealsOk.calls (k : Nat) (A0 : Option Addr) (c0 : Nat) (l0 : List (S43)) (r : Bool) (w : World) (hr0 : Kd.C k43 w A0 l0.length l0) (hc0 : l0.length ≤ c0) (h : impl_DealsOk.f k l0 = some r) :
  Calls Try.prog 28 #[.slice A0 l0.length c0] w fun e w' => e = .returned (.bool r) ∧ Below w.heap.size w w' := by
 have HR0 := Aside0.mk hr0
 have HC0 := Aside0.mk hc0
 clear hr0 hc0
 have HB := Aside0.mk (Below.refl w.heap.size w)
 have H:(if (l0.length:Int)≤200 then ((slices_ContainsFunc_impl_Deal_impl_Deal.f k l0 (fun z0_ z1_ z2_ z3_ z4_ z5_=>impl_DealsOk_1.f k z0_ z1_ z2_ z3_ z4_ z5_)).bind fun t204=>(some (!t204))) else (some false))=some r:=h
 clear h
 by_cases c2 : (l0.length : Int) ≤ 200
 ·rw [if_pos c2] at H
  have c2b0:decide ((l0.length:Int)≤200)=true:=decide_eq_true c2;have c2b1:decide (l0.length≤200)=true:=decide_eq_true (by omega);clear c2;obtain ⟨t204,A30,H⟩:=Option.bind_eq_some_iff.mp H;(try dsimp only at H);have A3:=Aside0.mk A30;clear A30;obtain rfl:=Option.some.inj H;go_enter Try.func28,Try.ntmps28
  go_wp2_with (first|(go_at_call 29;(with_reducible refine (slices_ContainsFunc_impl_Deal_impl_Deal.calls k _ _ l0 (fun z0_ z1_ z2_ z3_ z4_ z5_=>impl_DealsOk_1.f k z0_ z1_ z2_ z3_ z4_ z5_) 37 #[] t204 _ ?side1 ?side2 ?side3 ?side4 A3.out).mono ?_);(case side1=>exact pC_ HR0.out);(case side2=>exact HC0.out);(case side3=>exact ⟨⟨_,Try.func37,by kernel_rfl,rfl⟩⟩);(case side4=>refine ⟨?_⟩;intro a900_0 a900_1 a900_2 a900_3 a900_4 A900_5 c900_5 l900_5 rr0_ W_ hW_ hr900_5 hc900_5 h_;refine calls_of_args (args':=#[.agg #[.int .i64 a900_0,.int .i64 a900_1,.int .i64 a900_2,.int .i64 a900_3,.int .i64 a900_4,.slice A900_5 l900_5.length c900_5]]) (by simp) ?_;refine (impl_DealsOk_1.calls k a900_0 a900_1 a900_2 a900_3 a900_4 A900_5 c900_5 l900_5  rr0_ W_ hr900_5 hc900_5 h_).mono ?_;rintro e w' ⟨rfl,hd_⟩;exact ⟨rfl,hd_⟩);rintro e w4 ⟨rfl,hb⟩;have n0_:=Aside0.mk (below_step (pB_ HB.out) hb);clear HB;have HB:=n0_;clear n0_;(try clear hb);(try clear hb2);(try clear hk);(try clear hi)))
  go_ret; exact ⟨by first | rfl | (simp [errW_none, errW_some] <;> rfl) | (simp [*, errW_none, errW_some] <;> rfl), pB_ HB.out⟩
 ·rw [if_neg c2] at H
  have c2b0:decide ((l0.length:Int)≤200)=false:=decide_eq_false c2;have c2b1:decide (l0.length≤200)=false:=decide_eq_false (by omega);clear c2;obtain rfl:=Option.some.inj H;go_enter Try.func28,Try.ntmps28
  go_wp2
  go_ret; exact ⟨by first | rfl | (simp [errW_none, errW_some] <;> rfl) | (simp [*, errW_none, errW_some] <;> rfl), pB_ HB.out⟩

/-! ### impl_span: function 18 -/
def impl_span.f (k : Nat) (l0 : List (S43)) (a1 : Int) (a2 : Int) : Option ((List (S43)) × Bool) := (impl_DealsOk.f k l0).bind fun t205 => (if t205 = true then (if a1 < 0 then (some (([] : List (S43)), false)) else (if a1 > a2 then (some (([] : List (S43)), false)) else (if a2 > (l0.length : Int) then (some (([] : List (S43)), false)) else (if 0 ≤ a1 then (if a1 ≤ a2 then (if a2 ≤ (l0.length : Int) then (some (((l0.take (a2 : Int).toNat).drop (a1 : Int).toNat), true)) else (none)) else (none)) else (none))))) else (some (([] : List (S43)), false)))
set_option maxHeartbeats 8000000 in
set_option maxRecDepth 100000 in
theorem impl_span.calls (k : Nat) (P0_ : Nat → Prop) (A0 : Option Addr) (c0 : Nat) (l0 : List (S43)) (a1 : Int) (a2 : Int) (r1 : List (S43)) (r2 : Bool) (w : World) (hs0 : Kd.V k43 43 w w.heap.size (fun k_ => P0_ k_) (.slice A0 l0.length c0) l0) (h : impl_span.f k l0 a1 a2 = some (r1, r2)) :
  Calls Try.prog 18 #[.slice A0 l0.length c0,.int .i64 a1,.int .i64 a2] w fun e w'=>∃ v0_:Value,e=.returned (.tuple #[v0_,.bool r2])∧Kd.V k43 43 w' w.heap.size (fun k_=>(P0_ k_ ∨ w.heap.size≤k_)) v0_ r1∧Below w.heap.size w w':=by
 have HO0 := Aside0.mk (show Kd.V k43 43 w w.heap.size (fun k_ => (P0_ k_ ∨ w.heap.size ≤ k_)) (.slice A0 l0.length c0) l0 from Kd.V_mono hs0 (fun k_ hk => .inl hk))
 have HB := Aside0.mk (Below.refl w.heap.size w)
 have H:((impl_DealsOk.f k l0).bind fun t205=>(if t205=true then (if a1 < 0 then (some (([]:List (S43)),false)) else (if a1 > a2 then (some (([]:List (S43)),false)) else (if a2 > (l0.length:Int) then (some (([]:List (S43)),false)) else (if 0≤a1 then (if a1≤a2 then (if a2≤(l0.length:Int) then (some (((l0.take (a2:Int).toNat).drop (a1:Int).toNat),true)) else (none)) else (none)) else (none))))) else (some (([]:List (S43)),false))))=some (r1,r2):=h
 clear h
 obtain ⟨t205, A40, H⟩ := Option.bind_eq_some_iff.mp H
 (try dsimp only at H)
 have A4 := Aside0.mk A40
 clear A40
 by_cases c5 : t205 = true
 ·subst c5
  rw [if_pos rfl] at H
  by_cases c6 : a1 < 0
  ·rw [if_pos c6] at H
   have c6b0 : decide (a1 < 0) = true := decide_eq_true c6; clear c6; simp only [Option.some.injEq, Prod.mk.injEq] at H; obtain ⟨rfl, rfl⟩ := H; go_enter Try.func18, Try.ntmps18
   go_wp2_with (first|((with_reducible refine gate_callee (f:=28) rfl ?_);refine goesL_ (some 9) rfl rfl Try.func28 (by kernel_rfl) rfl #[.slice A0 l0.length c0] rfl Z2 ?_;(with_reducible refine (impl_DealsOk.calls k _ _ l0 true _ ?side1 ?side2 A4.out).mono ?_);(case side1=>exact pC_ ((Kd.V_reads' HO0.out).2.2));(case side2=>exact (Kd.V_reads' HO0.out).2.1);rintro e w7 ⟨rfl,hb⟩;refine ⟨_,rfl,?_⟩;have n_:=an_ (Kd.V_below (pV_ HO0.out) hb)<|Aside0.mk (below_step (pB_ HB.out) hb);clear HO0 HB;obtain ⟨HO0,HB⟩:=n_;(try clear hb);(try clear hb2);(try clear hk);(try clear hi)))
   go_ret2;exact ⟨_,by first|rfl|(simp [errW_none,errW_some] <;> rfl)|(simp [*,errW_none,errW_some] <;> rfl),by first|exact Kd.S_nil _ _ _ _ _|exact Kd.N_nil _ _ _ _ _|exact Kd.V_nil _ _ _ _ _|exact Kd.Q_nil _ _ _ _ _|exact Kd.R_nil _ _ _ _ _,pB_ HB.out⟩
  ·rw [if_neg c6] at H
   have c6b0 : decide (a1 < 0) = false := decide_eq_false c6; clear c6
   by_cases c8 : a1 > a2
   ·rw [if_pos c8] at H
    have c8b0 : decide (a2 < a1) = true := decide_eq_true c8; clear c8; simp only [Option.some.injEq, Prod.mk.injEq] at H; obtain ⟨rfl, rfl⟩ := H; go_enter Try.func18, Try.ntmps18
    go_wp2_with (first|((with_reducible refine gate_callee (f:=28) rfl ?_);refine goesL_ (some 9) rfl rfl Try.func28 (by kernel_rfl) rfl #[.slice A0 l0.length c0] rfl Z2 ?_;(with_reducible refine (impl_DealsOk.calls k _ _ l0 true _ ?side1 ?side2 A4.out).mono ?_);(case side1=>exact pC_ ((Kd.V_reads' HO0.out).2.2));(case side2=>exact (Kd.V_reads' HO0.out).2.1);rintro e w9 ⟨rfl,hb⟩;refine ⟨_,rfl,?_⟩;have n_:=an_ (Kd.V_below (pV_ HO0.out) hb)<|Aside0.mk (below_step (pB_ HB.out) hb);clear HO0 HB;obtain ⟨HO0,HB⟩:=n_;(try clear hb);(try clear hb2);(try clear hk);(try clear hi)))
    go_ret2;exact ⟨_,by first|rfl|(simp [errW_none,errW_some] <;> rfl)|(simp [*,errW_none,errW_some] <;> rfl),by first|exact Kd.S_nil _ _ _ _ _|exact Kd.N_nil _ _ _ _ _|exact Kd.V_nil _ _ _ _ _|exact Kd.Q_nil _ _ _ _ _|exact Kd.R_nil _ _ _ _ _,pB_ HB.out⟩
   ·rw [if_neg c8] at H
    have c8b0 : decide (a2 < a1) = false := decide_eq_false c8; clear c8; have HU10 := Aside0.mk H; clear H; go_enter Try.func18, Try.ntmps18
    go_upto_if 25 with (first|((with_reducible refine gate_callee (f:=28) rfl ?_);refine goesL_ (some 9) rfl rfl Try.func28 (by kernel_rfl) rfl #[.slice A0 l0.length c0] rfl Z2 ?_;(with_reducible refine (impl_DealsOk.calls k _ _ l0 true _ ?side1 ?side2 A4.out).mono ?_);(case side1=>exact pC_ ((Kd.V_reads' HO0.out).2.2));(case side2=>exact (Kd.V_reads' HO0.out).2.1);rintro e w11 ⟨rfl,hb⟩;refine ⟨_,rfl,?_⟩;have n_:=an_ (Kd.V_below (pV_ HO0.out) hb)<|Aside0.mk (below_step (pB_ HB.out) hb);clear HO0 HB;obtain ⟨HO0,HB⟩:=n_;(try clear hb);(try clear hb2);(try clear hk);(try clear hi)))
    have H := HU10.out; clear HU10
    by_cases c12 : a2 > (l0.length : Int)
    ·rw [if_pos c12] at H
     have c12b0:decide ((l0.length:Int) < a2)=true:=decide_eq_true c12;clear c12;(first|rw [c12b0]|(simp only [i64_w,i32_w];rw [c12b0])|(have cz_:=c12b0;simp only [bne,gt_iff_lt,Int.natCast_pos] at cz_;first|rw [cz_]|(simp only [i64_w,i32_w];rw [cz_]))|skip);simp only [Option.some.injEq,Prod.mk.injEq] at H;obtain ⟨rfl,rfl⟩:=H
     go_wp2
     go_ret2;exact ⟨_,by first|rfl|(simp [errW_none,errW_some] <;> rfl)|(simp [*,errW_none,errW_some] <;> rfl),by first|exact Kd.S_nil _ _ _ _ _|exact Kd.N_nil _ _ _ _ _|exact Kd.V_nil _ _ _ _ _|exact Kd.Q_nil _ _ _ _ _|exact Kd.R_nil _ _ _ _ _,pB_ HB.out⟩
    ·rw [if_neg c12] at H
     have c12b0:decide ((l0.length:Int) < a2)=false:=decide_eq_false c12;clear c12;(first|rw [c12b0]|(simp only [i64_w,i32_w];rw [c12b0])|(have cz_:=c12b0;simp only [bne,gt_iff_lt,Int.natCast_pos] at cz_;first|rw [cz_]|(simp only [i64_w,i32_w];rw [cz_]))|skip)
     by_cases c13 : 0 ≤ a1
     ·rw [if_pos c13] at H
      have c13b0 := eq_true c13; have c13b1 : decide (0 ≤ a1) = true := decide_eq_true c13; clear c13
      by_cases c14 : a1 ≤ a2
      ·rw [if_pos c14] at H
       have c14b0 := eq_true c14; have c14b1 : decide (a1 ≤ a2) = true := decide_eq_true c14; clear c14
       by_cases c15 : a2 ≤ (l0.length : Int)
       ·rw [if_pos c15] at H
        have c15b0:=eq_true c15;have c15b1:decide (a2≤(l0.length:Int))=true:=decide_eq_true c15;clear c15;obtain ⟨y206,hy206⟩:∃ y_:List (S43),y_=((l0.take (a2:Int).toNat).drop (a1:Int).toNat):=⟨_,rfl⟩
        replace H:(some (y206,true))=some (r1,r2):=by first|(rw [hy206];with_reducible exact H)|(have H2_:=(Option.bind_some _ _).symm.trans H;rw [hy206];with_reducible exact H2_)|(have H2_:=(Option.bind_some _ _).symm.trans H;with_reducible exact H2_)|with_reducible exact H|(rw [hy206];exact H)|exact H
        have Ny206:=Aside0.mk hy206;clear hy206;simp only [Option.some.injEq,Prod.mk.injEq] at H;obtain ⟨rfl,rfl⟩:=H;have q16:(a2:Int)≤((l0.length:Int):Int):=of_decide_eq_true Z8;obtain ⟨i016,hi016,_,hsz16,_⟩:=info_parts info43;have hroom16:l0.length≤c0:=(Kd.V_reads' HO0.out).2.1;have hC16:Kd.F k43 _ _ A0 l0.length l0:=(Kd.V_at (base:=w.heap.size) HO0.out).2.2;have ql16:(a1:Int)≤(a2:Int):=of_decide_eq_true Z8;have q016:(0:Int)≤(a1:Int):=of_decide_eq_true Z8;have hcut16:=cut_mid (P:=Try.prog) 26 43 .i64 .i64 Try.underlying26 hi016 6 hsz16 A0 l0.length c0 a1 a2 q016 ql16 q16 hroom16;have hr16:=Kd.F_mid (lo:=(a1:Int).toNat) (hi:=(a2:Int).toNat) (c:=c0) hC16 (by omega) (by omega) hroom16;obtain ⟨A16,hA16⟩:∃ A1,A1=(if c0=(a1:Int).toNat then A0 else (A0:Option Addr).map (·.add ((a1:Int).toNat * 6))):=⟨_,rfl⟩;obtain ⟨c16,hc16⟩:∃ c1,c1=c0 - (a1:Int).toNat:=⟨_,rfl⟩;have hy16:y206.length=(a2:Int).toNat - (a1:Int).toNat:=(by rw [Ny206.out,List.length_drop,List.length_take] <;> omega);rw [show ((l0).take (a2:Int).toNat).drop (a1:Int).toNat=y206 from Ny206.out.symm] at hr16;replace hr16:Kd.F k43 _ _ A16 y206.length y206:=(by rw [hA16];exact hr16);rw [← hy16,← hA16,← hc16] at hcut16;have HO210:=Aside0.mk (show Kd.V k43 43 _ w.heap.size _ (.slice A16 y206.length c16) y206 from Kd.V_mk (by rw [hy16,hc16];exact Nat.sub_le_sub_right (Nat.le_trans (by omega) hroom16) _) hr16);have HC210:=Aside0.mk (show y206.length≤c16 from by rw [hy16,hc16];exact Nat.sub_le_sub_right (Nat.le_trans (by omega) hroom16) _);clear hr16 hC16 hroom16 hi016 hsz16 hc16;have KY16:=Aside0.mk hy16;have KA16:=Aside0.mk hA16;clear hy16 hA16;replace q16:=eq_true q16
        go_wp2
        go_ret2;exact ⟨_,by first|rfl|(simp [errW_none,errW_some] <;> rfl)|(simp [*,errW_none,errW_some] <;> rfl),by (with_reducible repeat (first|apply Kd.V_alloc|apply Kd.V_drewN|apply Kd.V_drew));exact HO210.out,pB_ HB.out⟩
       ·rw [if_neg c15] at H
        exact absurd H (by simp)
      ·rw [if_neg c14] at H
       exact absurd H (by simp)
     ·rw [if_neg c13] at H
      exact absurd H (by simp)
 ·replace c5 := Bool.eq_false_iff.mpr c5
  subst c5; rw [if_neg (show ¬ (false = true) by decide)] at H; simp only [Option.some.injEq, Prod.mk.injEq] at H; obtain ⟨rfl, rfl⟩ := H; go_enter Try.func18, Try.ntmps18
  go_wp2_with (first|((with_reducible refine gate_callee (f:=28) rfl ?_);refine goesL_ (some 9) rfl rfl Try.func28 (by kernel_rfl) rfl #[.slice A0 l0.length c0] rfl Z2 ?_;(with_reducible refine (impl_DealsOk.calls k _ _ l0 false _ ?side1 ?side2 A4.out).mono ?_);(case side1=>exact pC_ ((Kd.V_reads' HO0.out).2.2));(case side2=>exact (Kd.V_reads' HO0.out).2.1);rintro e w17 ⟨rfl,hb⟩;refine ⟨_,rfl,?_⟩;have n_:=an_ (Kd.V_below (pV_ HO0.out) hb)<|Aside0.mk (below_step (pB_ HB.out) hb);clear HO0 HB;obtain ⟨HO0,HB⟩:=n_;(try clear hb);(try clear hb2);(try clear hk);(try clear hi)))
  go_ret2;exact ⟨_,by first|rfl|(simp [errW_none,errW_some] <;> rfl)|(simp [*,errW_none,errW_some] <;> rfl),by first|exact Kd.S_nil _ _ _ _ _|exact Kd.N_nil _ _ _ _ _|exact Kd.V_nil _ _ _ _ _|exact Kd.Q_nil _ _ _ _ _|exact Kd.R_nil _ _ _ _ _,pB_ HB.out⟩

/-! ### impl_Vec_on: function 31 -/
def impl_Vec_on.f (a0_0 : Int) (a0_1 : Int) (a0_2 : Int) (a1 : Int) : Option (Int) := if 0 ≤ a1 then (if a1 < 3 then (some (ar3 a0_0 a0_1 a0_2 a1)) else (none)) else (none)
set_option maxHeartbeats 8000000 in
set_option maxRecDepth 100000 in
theorem impl_Vec_on.calls (a0_0 : Int) (a0_1 : Int) (a0_2 : Int) (a1 : Int) (r : Int) (w : World) (h : impl_Vec_on.f a0_0 a0_1 a0_2 a1 = some r) :
  Calls Try.prog 31 #[.agg #[.int .i64 a0_0, .int .i64 a0_1, .int .i64 a0_2], .int .i64 a1] w fun e w' => e = .returned (.int .i64 r) ∧ Below w.heap.size w w' := by
 have hu41 := Try.underlying41
 have hu61 := Try.underlying61
 have hix61:∀ (x0 x1 x2 i:Int) (W:World),decide (0≤i)=true → decide (i < 3)=true → (Instr.index 61 (.agg #[.int .i64 x0,.int .i64 x1,.int .i64 x2]) (.int .i64 i)).run Try.prog W=.ok (.int .i64 (ar3 x0 x1 x2 i)) W:=by intro x0 x1 x2 i W h0 h1;rcases ar3_three h0 h1 with rfl|rfl|rfl <;> rfl
 have HB := Aside0.mk (Below.refl w.heap.size w)
 have H : (if 0 ≤ a1 then (if a1 < 3 then (some (ar3 a0_0 a0_1 a0_2 a1)) else (none)) else (none)) = some r := h
 clear h
 by_cases c3 : 0 ≤ a1
 ·rw [if_pos c3] at H
  have c3b0 : decide (0 ≤ a1) = true := decide_eq_true c3; clear c3
  by_cases c4 : a1 < 3
  ·rw [if_pos c4] at H
   have c4b0 : decide (a1 < 3) = true := decide_eq_true c4; clear c4; obtain rfl := Option.some.inj H; go_enter Try.func31, Try.ntmps31
   go_wp2_with (first|((with_reducible refine gate_dst (N:=2) rfl ?_);refine box_event ?hg (N:=2) ?hd (cs:=#[.int .i64 a0_0,.int .i64 a0_1,.int .i64 a0_2]) (t:=41) ?hr ?_;(case hd=>rfl);(case hg=>rfl);(case hr=>first|(go_simp;done)|(go_simp;rfl));intro gb211 hg w5 hbox hb;have n_:=an_ (below_step (pB_ HB.out) hb)<|an_ (hbox)<|an_ ((by rw [hg];exact (below_size (pB_ HB.out)):w.heap.size≤gb211))<|Aside0.mk ((by rw [hg];exact (below_size (pB_ HB.out)):w.heap.size≤gb211));clear HB;obtain ⟨HB,BK211,GW211,GE211⟩:=n_;clear hb hbox hg;have hcz6_0:w5.cell? ⟨gb211,0,none⟩=some (.int .i64 a0_0):=(blk_cell BK211.out 0).trans rfl;have hcz6_1:w5.cell? ⟨gb211,1,none⟩=some (.int .i64 a0_1):=(blk_cell BK211.out 1).trans rfl;have hcz6_2:w5.cell? ⟨gb211,2,none⟩=some (.int .i64 a0_2):=(blk_cell BK211.out 2).trans rfl;have hfz6_0:=blk_frozen BK211.out 0;have hfz6_1:=blk_frozen BK211.out 1;have hfz6_2:=blk_frozen BK211.out 2))
   go_ret; exact ⟨by first | rfl | (simp [errW_none, errW_some] <;> rfl) | (simp [*, errW_none, errW_some] <;> rfl), pB_ HB.out⟩
  ·rw [if_neg c4] at H
   exact absurd H (by simp)
 ·rw [if_neg c3] at H
  exact absurd H (by simp)

/-! ### impl_VecTop: function 32 -/
def impl_VecTop.f (a0_0 : Int) (a0_1 : Int) (a0_2 : Int) : Option (Int) := some (mx (mx a0_0 a0_1) a0_2)
set_option maxHeartbeats 8000000 in
set_option maxRecDepth 100000 in
theorem impl_VecTop.calls (a0_0 : Int) (a0_1 : Int) (a0_2 : Int) (r : Int) (w : World) (h : impl_VecTop.f a0_0 a0_1 a0_2 = some r) :
  Calls Try.prog 32 #[.agg #[.int .i64 a0_0, .int .i64 a0_1, .int .i64 a0_2]] w fun e w' => e = .returned (.int .i64 r) ∧ Below w.heap.size w w' := by
 have hu41 := Try.underlying41
 have HB := Aside0.mk (Below.refl w.heap.size w)
 have H : (some (mx (mx a0_0 a0_1) a0_2)) = some r := h
 clear h
 obtain ⟨ji2, hji2⟩ : ∃ j_ : Int, (mx a0_0 a0_1) = j_ := ⟨_, rfl⟩
 replace H : (some (mx (ji2) a0_2)) = some r := by first | (rw [hji2] at H; exact H) | (simp only [hji2] at H ⊢; exact H)
 have hji2_ : (if a0_0 < a0_1 then a0_1 else a0_0) = ji2 := hji2
 obtain ⟨ji3, hji3⟩ : ∃ j_ : Int, (mx (ji2) a0_2) = j_ := ⟨_, rfl⟩
 replace H : (some ji3) = some r := by first | (rw [hji3] at H; exact H) | (simp only [hji3] at H ⊢; exact H)
 have hji3_ : (if (ji2) < a0_2 then a0_2 else (ji2)) = ji3 := hji3
 obtain rfl := Option.some.inj H
 go_enter Try.func32, Try.ntmps32
 go_wp2_with (first|((with_reducible refine gate_dst (N:=1) rfl ?_);refine box_event ?hg (N:=1) ?hd (cs:=#[.int .i64 a0_0,.int .i64 a0_1,.int .i64 a0_2]) (t:=41) ?hr ?_;(case hd=>rfl);(case hg=>rfl);(case hr=>first|(go_simp;done)|(go_simp;rfl));intro gb212 hg w4 hbox hb;have n_:=an_ (below_step (pB_ HB.out) hb)<|an_ (hbox)<|an_ ((by rw [hg];exact (below_size (pB_ HB.out)):w.heap.size≤gb212))<|Aside0.mk ((by rw [hg];exact (below_size (pB_ HB.out)):w.heap.size≤gb212));clear HB;obtain ⟨HB,BK212,GW212,GE212⟩:=n_;clear hb hbox hg;have hcz5_0:w4.cell? ⟨gb212,0,none⟩=some (.int .i64 a0_0):=(blk_cell BK212.out 0).trans rfl;have hcz5_1:w4.cell? ⟨gb212,1,none⟩=some (.int .i64 a0_1):=(blk_cell BK212.out 1).trans rfl;have hcz5_2:w4.cell? ⟨gb212,2,none⟩=some (.int .i64 a0_2):=(blk_cell BK212.out 2).trans rfl;have hfz5_0:=blk_frozen BK212.out 0;have hfz5_1:=blk_frozen BK212.out 1;have hfz5_2:=blk_frozen BK212.out 2))
 go_ret
 exact ⟨by first|rfl|(simp [errW_none,errW_some] <;> rfl)|(simp only [← hji2,← hji3];first|rfl|(simp [errW_none,errW_some] <;> rfl))|(simp [*,errW_none,errW_some] <;> rfl),pB_ HB.out⟩

end Go.Proofs.Ytecabogkenabnac.PFnExactMains
