-- by a program of this session's, over the kit's words
import Derived.Test.YtcdangcjbijfkabPZFnExactLinePut
import Derived.Test.YtcdangcjbijfkabPFnExactLinePutx0
import Derived.Test.YtcdangcjbijfkabPFnExactLinePutx5
import Derived.Test.YtcdangcjbijfkabPFnExactLinePutx6
import Derived.Test.YtcdangcjbijfkabPFnExactLinePutx7
namespace Go.Proofs.Ytcdangcjbijfkab.PFnExactLinePut
open Go.RowKit Go.Proofs.YtcdangcjbijfkabW.PrintWords Go.Proofs.YtcdangcjbijfkabW.PrintLast Go.Proofs.YtcdangcjbijfkabW.PrintMore Go.Proofs.YtcdangcjbijfkabV Go.Proofs.Ytcdangcjbijfkab.ZFnExactLinePut
attribute [local go_sem] max2_int min2_int max_two min_two max_three min_three max_four min_four   -- for this text's walks alone
set_option linter.unusedVariables false
set_option linter.unusedSimpArgs false

/-! ### slices_ContainsFunc_impl_Job_impl_Job: function 22 -/
def slices_ContainsFunc_impl_Job_impl_Job.f (k : Nat) (l0 : List (S38)) (a1 : (Int → Int → Int → Int → Option (Bool))) : Option (Bool) := (slices_IndexFunc_impl_Job_impl_Job.f k l0 a1).bind fun t252 => (some (decide (t252 ≥ 0)))
set_option maxHeartbeats 8000000 in
set_option maxRecDepth 100000 in
theorem slices_ContainsFunc_impl_Job_impl_Job.calls (k : Nat) (A0 : Option Addr) (c0 : Nat) (l0 : List (S38)) (a1 : (Int → Int → Int → Int → Option (Bool))) (fn1 : Nat) (cp1 : Array Value) (r : Bool) (w : World) (hr0 : Kd.C k38 w A0 l0.length l0) (hc0 : l0.length ≤ c0) (hq1 : Aside0 (∃ F_, Try.prog.funcs[fn1]? = some F_ ∧ (F_.name == "runtime.NumGoroutine") = false ∧ F_.body.isSome = true)) (HP1_22 : Aside0 (∀ (a900_0 : Int) (a900_1 : Int) (a900_2 : Int) (a900_3 : Int) (rr0_ : Bool) (W_ : World), Below w.heap.size w W_ → a1 a900_0 a900_1 a900_2 a900_3 = some rr0_ → Calls Try.prog fn1 (#[.agg #[.int .i64 a900_0, .int .i64 a900_1, .int .i64 a900_2, .int .i64 a900_3]] ++ cp1) W_ (fun e w' => e = .returned (.bool rr0_) ∧ Below W_.heap.size W_ w'))) (h : slices_ContainsFunc_impl_Job_impl_Job.f k l0 a1 = some r) :
  Calls Try.prog 22 #[.slice A0 l0.length c0, .func (.func fn1) #[] cp1] w fun e w' => e = .returned (.bool r) ∧ Below w.heap.size w w' := by
 have HR0 := Aside0.mk hr0
 have HC0 := Aside0.mk hc0
 clear hr0 hc0
 have HB := Aside0.mk (Below.refl w.heap.size w)
 have H : ((slices_IndexFunc_impl_Job_impl_Job.f k l0 a1).bind fun t252 => (some (decide (t252 ≥ 0)))) = some r := h
 clear h
 obtain ⟨t252, A30, H⟩ := Option.bind_eq_some_iff.mp H
 (try dsimp only at H)
 have A3 := Aside0.mk A30
 clear A30
 obtain rfl := Option.some.inj H
 go_enter Try.func22, Try.ntmps22
 go_wp2_with (first|((with_reducible refine gate_callee (f:=32) rfl ?_);refine goesL_ (some 7) rfl rfl Try.func32 (by kernel_rfl) rfl #[.slice A0 l0.length c0,.func (.func fn1) #[] cp1] rfl Z22 ?_;(with_reducible refine (slices_IndexFunc_impl_Job_impl_Job.calls k _ _ l0 a1 fn1 cp1 t252 _ ?side1 ?side2 ?side3 ?side4 A3.out).mono ?_);(case side1=>exact pC_ HR0.out);(case side2=>exact HC0.out);(case side3=>exact hq1);(case side4=>refine ⟨?_⟩;intro a900_0 a900_1 a900_2 a900_3 rr0_ W_ hW_ h_;exact HP1_22.out a900_0 a900_1 a900_2 a900_3 rr0_ W_ (below_step (pB_ HB.out) hW_) h_);rintro e w4 ⟨rfl,hb⟩;refine ⟨_,rfl,?_⟩;have n0_:=Aside0.mk (below_step (pB_ HB.out) hb);clear HB;have HB:=n0_;clear n0_;(try clear hb);(try clear hb2);(try clear hk);(try clear hi)))
 go_ret
 exact ⟨by first|rfl|(simp [errW_none,errW_some] <;> rfl)|(simp [*,errW_none,errW_some] <;> rfl),by repeat (first|(with_reducible first|exact HB.out|apply below_alloc|apply pw_below_drewN|apply below_drew1)|exact HB.out)⟩

/-! ### impl_LinePut_1: function 24 -/
def impl_LinePut_1.f (a0_0 : Int) (a0_1 : Int) (a0_2 : Int) (a0_3 : Int) (a1_0 : Int) (a1_1 : Int) (a1_2 : Int) (a1_3 : Int) : Option (Bool) := some (a0_0 == a1_0)
set_option maxHeartbeats 8000000 in
set_option maxRecDepth 100000 in
theorem impl_LinePut_1.calls (a0_0 : Int) (a0_1 : Int) (a0_2 : Int) (a0_3 : Int) (gc1 : Nat) (a1_0 : Int) (a1_1 : Int) (a1_2 : Int) (a1_3 : Int) (r : Bool) (w : World) (hbx1 : w.heap[gc1]? = some (.cells #[.int .i64 a1_0, .int .i64 a1_1, .int .i64 a1_2, .int .i64 a1_3] 38 (0, 0))) (h : impl_LinePut_1.f a0_0 a0_1 a0_2 a0_3 a1_0 a1_1 a1_2 a1_3 = some r) :
  Calls Try.prog 24 #[.agg #[.int .i64 a0_0, .int .i64 a0_1, .int .i64 a0_2, .int .i64 a0_3], .pointer (some ⟨gc1, 0, none⟩)] w fun e w' => e = .returned (.bool r) ∧ Below w.heap.size w w' := by
 have hu38 := Try.underlying38
 have BK1 := Aside0.mk hbx1
 clear hbx1
 have HB := Aside0.mk (Below.refl w.heap.size w)
 have H : (some (a0_0 == a1_0)) = some r := h
 clear h
 obtain rfl := Option.some.inj H
 go_enter Try.func24, Try.ntmps24
 go_wp2_with (first|((with_reducible refine gate_dst (N:=2) rfl ?_);refine box_event ?hg (N:=2) ?hd (cs:=#[.int .i64 a0_0,.int .i64 a0_1,.int .i64 a0_2,.int .i64 a0_3]) (t:=38) ?hr ?_;(case hd=>rfl);(case hg=>rfl);(case hr=>first|(go_simp;done)|(go_simp;rfl));intro gb253 hg w3 hbox hb;have n_:=an_ (blk_below (pk_ BK1.out) hb)<|an_ (below_step (pB_ HB.out) hb)<|an_ (hbox)<|an_ ((by rw [hg];exact (below_size (pB_ HB.out)):w.heap.size≤gb253))<|an_ ((by rw [hg];exact (below_size (pB_ HB.out)):w.heap.size≤gb253))<|an_ ((by rw [hg];exact Nat.ne_of_lt (blk_lt (pk_ BK1.out)):gc1≠gb253))<|Aside0.mk ((by rw [hg];exact Nat.ne_of_gt (blk_lt (pk_ BK1.out)):gb253≠gc1));clear BK1 HB;obtain ⟨BK1,HB,BK253,GW253,GE253,NB1_253,NB253_1⟩:=n_;clear hb hbox hg;(try have hnb4:=NB253_1.out);(try have hnc4:=NB1_253.out);have hcz5_0:w3.cell? ⟨gb253,0,none⟩=some (.int .i64 a0_0):=(blk_cell BK253.out 0).trans rfl;have hcz5_1:w3.cell? ⟨gb253,1,none⟩=some (.int .i64 a0_1):=(blk_cell BK253.out 1).trans rfl;have hcz5_2:w3.cell? ⟨gb253,2,none⟩=some (.int .i64 a0_2):=(blk_cell BK253.out 2).trans rfl;have hcz5_3:w3.cell? ⟨gb253,3,none⟩=some (.int .i64 a0_3):=(blk_cell BK253.out 3).trans rfl;have hfz5_0:=blk_frozen BK253.out 0;have hfz5_1:=blk_frozen BK253.out 1;have hfz5_2:=blk_frozen BK253.out 2;have hfz5_3:=blk_frozen BK253.out 3;have hcz6_0:w3.cell? ⟨gc1,0,none⟩=some (.int .i64 a1_0):=(blk_cell BK1.out 0).trans rfl;have hcz6_1:w3.cell? ⟨gc1,1,none⟩=some (.int .i64 a1_1):=(blk_cell BK1.out 1).trans rfl;have hcz6_2:w3.cell? ⟨gc1,2,none⟩=some (.int .i64 a1_2):=(blk_cell BK1.out 2).trans rfl;have hcz6_3:w3.cell? ⟨gc1,3,none⟩=some (.int .i64 a1_3):=(blk_cell BK1.out 3).trans rfl;have hfz6_0:=blk_frozen BK1.out 0;have hfz6_1:=blk_frozen BK1.out 1;have hfz6_2:=blk_frozen BK1.out 2;have hfz6_3:=blk_frozen BK1.out 3))
 go_ret
 exact ⟨by first|rfl|(simp [errW_none,errW_some] <;> rfl)|(simp [*,errW_none,errW_some] <;> rfl),by repeat (first|(with_reducible first|exact HB.out|apply below_alloc|apply pw_below_drewN|apply below_drew1|refine below_set ?_ GE1.out|refine below_set ?_ GE253.out)|exact HB.out)⟩

/-! ### slices_Clone_impl_Job_impl_Job: function 34 -/
def slices_Clone_impl_Job_impl_Job.f (l0 : List (S38)) : Option ((List (S38))) := (some (([] : List (S38)) : List (S38))).bind fun y254 => (if y254.length + l0.length < 4398046511104 then (some (y254 ++ l0)) else (none))
set_option maxHeartbeats 8000000 in
set_option maxRecDepth 100000 in
theorem slices_Clone_impl_Job_impl_Job.calls (A0 : Option Addr) (c0 : Nat) (l0 : List (S38)) (r : List (S38)) (w : World) (hr0 : Kd.C k38 w A0 l0.length l0) (hc0 : l0.length ≤ c0) (h : slices_Clone_impl_Job_impl_Job.f l0 = some r) :
  Calls Try.prog 34 #[.slice A0 l0.length c0] w fun e w' => ∃ v0_ : Value, e = .returned (v0_) ∧ Kd.R k38 38 w' w.heap.size (fun _ => True) v0_ r ∧ Below w.heap.size w w' := by
 have HR0 := Aside0.mk hr0
 have HC0 := Aside0.mk hc0
 clear hr0 hc0
 have HB := Aside0.mk (Below.refl w.heap.size w)
 have H : ((some (([] : List (S38)) : List (S38))).bind fun y254 => (if y254.length + l0.length < 4398046511104 then (some (y254 ++ l0)) else (none))) = some r := h
 clear h
 by_cases hA_ : A0 = none
 ·subst hA_
  have hl_ := List.length_eq_zero_iff.1 (nil_len HR0.out); subst hl_
  have H : some ([] : List (S38)) = some r := by simpa using H
  obtain rfl := Option.some.inj H; go_enter Try.func34, Try.ntmps34
  go_wp2_with (first|((with_reducible refine gate_dst (N:=4) rfl ?_);refine isnil_event ?hg (N:=4) ?hd (t:=30) (u:=30) (e:=38) (x:=.tmp 3) (y:=.const (.slice none 0 0)) ?ho (A:=none) (n:=0) (c:=c0) (m:=0) (q:=0) ?hx ?hy Try.underlying30 (b:=true) rfl ?_;(case hd=>rfl);(case hg=>rfl);(case ho=>rfl);(case hx=>rfl);(case hy=>rfl)))
  go_ret;exact ⟨_,by first|rfl|(simp [errW_none,errW_some] <;> rfl)|(simp [*,errW_none,errW_some] <;> rfl),by first|exact Kd.R_nil _ _ _ _ _|exact Kd.N_nil _ _ _ _ _|exact Kd.V_nil _ _ _ _ _|exact Kd.Q_nil _ _ _ _ _|exact Kd.S_nil _ _ _ _ _,by repeat (first|(with_reducible first|exact HB.out|apply below_alloc|apply pw_below_drewN|apply below_drew1)|exact HB.out)⟩
 ·have hA1_ := none_no hA_
  obtain ⟨y254, hy254⟩ : ∃ y_ : List (S38), y_ = (([] : List (S38))) := ⟨_, rfl⟩
  replace H:(if y254.length + l0.length < 4398046511104 then (some (y254 ++ l0)) else (none))=some r:=by first|(rw [hy254];with_reducible exact H)|(have H2_:=(Option.bind_some _ _).symm.trans H;rw [hy254];with_reducible exact H2_)|(have H2_:=(Option.bind_some _ _).symm.trans H;with_reducible exact H2_)|with_reducible exact H|(rw [hy254];exact H)|exact H
  have Ny254 := Aside0.mk hy254; clear hy254
  by_cases c2 : y254.length + l0.length < 4398046511104
  ·rw [if_pos c2] at H
   have LMc2 := Aside0.mk c2; clear c2; obtain ⟨y257, hy257⟩ : ∃ y_ : List (S38), y_ = (y254 ++ l0) := ⟨_, rfl⟩
   replace H:(some y257)=some r:=by first|(rw [hy257];with_reducible exact H)|(have H2_:=(Option.bind_some _ _).symm.trans H;rw [hy257];with_reducible exact H2_)|(have H2_:=(Option.bind_some _ _).symm.trans H;with_reducible exact H2_)|with_reducible exact H|(rw [hy257];exact H)|exact H
   have Ny257 := Aside0.mk hy257; clear hy257; obtain rfl := Option.some.inj H; go_enter Try.func34, Try.ntmps34
   go_wp2_with (first|((with_reducible refine gate_dst (N:=4) rfl ?_);refine isnil_event ?hg (N:=4) ?hd (t:=30) (u:=30) (e:=38) (x:=.tmp 3) (y:=.const (.slice none 0 0)) ?ho (A:=A0) (n:=l0.length) (c:=c0) (m:=0) (q:=0) ?hx ?hy Try.underlying30 (b:=false) hA1_ ?_;(case hd=>rfl);(case hg=>rfl);(case ho=>rfl);(case hx=>rfl);(case hy=>rfl))|((with_reducible refine gate_dst (N:=5) rfl ?_);refine Kd.R_lit k38 _ 38 ?hg (N:=5) ?hd (xs:=([]:List (S38))) (inner:=[]) (ok:=fun _=>True) (okp:=fun _=>True) ?hr ?hp (fun _ hk=>hk) trivial (Below.refl _ _) (Nat.le_refl _) (by simp) ?_;(case hd=>rfl);(case hg=>rfl);(case hr=>first|(go_simp;done)|(go_simp;rfl));(case hp=>exact (Reps.none _ _));intro v255 w3 ho4 hb hg_ hnew_;clear hg_ hnew_;(first|rw [← Ny254.out] at ho4|(simp only [Int.reduceToNat] at ho4;rw [← Ny254.out] at ho4));have n_:=an_ (Kd.R_lower ho4 (below_size (pB_ HB.out)))<|Aside0.mk (below_step (pB_ HB.out) hb);clear HB;obtain ⟨HO256,HB⟩:=n_;clear hb ho4)|((with_reducible refine gate_builtin (b:=.append) (xs:=#[.tmp 5,.tmp 6]) rfl ?_);at_builtin;refine Kd.R_append_rows k38 (w0:=w) w.heap.size rfl (.tmp 5) (.tmp 6) 30 38 (.agg #[(.int .i64 0),(.int .i64 0),(.int .i64 0),(.int .i64 0)]) 32 rfl Try.underlying30 info38 rfl (by decide) (by omega) v255 y254 l0 _ _ _ (fun _=>True) (fun _=>False) rfl rfl ?aO ?aR (fun _ _ h=>h) (fun _ h=>h.elim) ?aF ?aB ?aS ?aL ?_;(case aR=>exact pC_ (Kd.C_below HR0.out HB.out));(case aB=>exact (pB_ HB.out));(case aF=>exact (fun _ _=>trivial));(case aO=>exact (pR_ HO256.out));(case aS=>exact (below_size (pB_ HB.out)));(case aL=>have:=LMc2.out;omega);intro v258 w5 ho hb hg hat;rw [← Ny257.out] at ho;have n_:=an_ (hb)<|Aside0.mk (ho);clear HB HO256;obtain ⟨HB,HO259⟩:=n_;clear ho hb hg hat))
   go_ret;exact ⟨_,by first|rfl|(simp [errW_none,errW_some] <;> rfl)|(simp [*,errW_none,errW_some] <;> rfl),by (with_reducible repeat (first|apply Kd.R_alloc|apply Kd.R_drewN|apply Kd.R_drew));exact HO259.out,by repeat (first|(with_reducible first|exact HB.out|apply below_alloc|apply pw_below_drewN|apply below_drew1)|exact HB.out)⟩
  ·rw [if_neg c2] at H
   exact absurd H (by simp)

/-! ### impl_copyLine: function 25 -/
def impl_copyLine.f (a0_0 : Int) (l0_1 : List (S38)) (l0_2 : List (S38)) (l0_3 : List (S38)) : Option (Int × (List (S38)) × (List (S38)) × (List (S38))) := (slices_Clone_impl_Job_impl_Job.f l0_1).bind fun t262 => ((slices_Clone_impl_Job_impl_Job.f l0_2).bind fun t265 => ((slices_Clone_impl_Job_impl_Job.f l0_3).bind fun t268 => (some (a0_0, t262, t265, t268))))
def impl_copyLine.T1 : Bool × List (List Nat × List Nat) := (true, [([], []), ([0], [0]), ([], []), ([2], [2]), ([3], [3]), ([], []), ([5], [5]), ([6, 4], [6]), ([], []), ([8], [8]), ([9, 7], [9]), ([1, 4, 7, 10], [1, 4, 7, 10]), ([11, 10, 0, 1, 2, 3, 4, 5, 6, 7, 8, 9, 10, 11], [11])])
def impl_copyLine.B1 : List Nat := [0, 1, 0, 4, 12, 0, 32, 124, 0, 256, 1020, 2047, 4095]
theorem impl_copyLine.tab1 : rtab .any (opsOf Try.f25 1) = impl_copyLine.T1 := by kernel_rfl
theorem impl_copyLine.bits1 : waitsOk impl_copyLine.T1.2 impl_copyLine.B1 = true := by kernel_rfl
set_option maxHeartbeats 8000000 in
set_option maxRecDepth 100000 in
theorem impl_copyLine.calls (a0_0 : Int) (A0_1 : Option Addr) (c0_1 : Nat) (l0_1 : List (S38)) (A0_2 : Option Addr) (c0_2 : Nat) (l0_2 : List (S38)) (A0_3 : Option Addr) (c0_3 : Nat) (l0_3 : List (S38)) (r1 : Int) (r2 : List (S38)) (r3 : List (S38)) (r4 : List (S38)) (w : World) (hr0_1 : Kd.C k38 w A0_1 l0_1.length l0_1) (hc0_1 : l0_1.length ≤ c0_1) (hr0_2 : Kd.C k38 w A0_2 l0_2.length l0_2) (hc0_2 : l0_2.length ≤ c0_2) (hr0_3 : Kd.C k38 w A0_3 l0_3.length l0_3) (hc0_3 : l0_3.length ≤ c0_3) (h : impl_copyLine.f a0_0 l0_1 l0_2 l0_3 = some (r1, r2, r3, r4)) :
  Calls Try.prog 25 #[.agg #[.int .i64 a0_0,.slice A0_1 l0_1.length c0_1,.slice A0_2 l0_2.length c0_2,.slice A0_3 l0_3.length c0_3]] w fun e w'=>∃ v1_ v2_ v3_:Value,e=.returned (.agg #[.int .i64 r1,v1_,v2_,v3_])∧Kd.R k38 38 w' w.heap.size (fun k_=>some k_≠(v2_:Value).ownBlock∧some k_≠(v3_:Value).ownBlock) v1_ r2∧Kd.R k38 38 w' w.heap.size (fun k_=>some k_≠(v1_:Value).ownBlock∧some k_≠(v3_:Value).ownBlock) v2_ r3∧Kd.R k38 38 w' w.heap.size (fun k_=>some k_≠(v1_:Value).ownBlock∧some k_≠(v2_:Value).ownBlock) v3_ r4∧Below w.heap.size w w':=by
 have hu32 := Try.underlying32
 have HR0_1 := Aside0.mk hr0_1
 have HC0_1 := Aside0.mk hc0_1
 clear hr0_1 hc0_1
 have HR0_2 := Aside0.mk hr0_2
 have HC0_2 := Aside0.mk hc0_2
 clear hr0_2 hc0_2
 have HR0_3 := Aside0.mk hr0_3
 have HC0_3 := Aside0.mk hc0_3
 clear hr0_3 hc0_3
 have HB := Aside0.mk (Below.refl w.heap.size w)
 have H:((slices_Clone_impl_Job_impl_Job.f l0_1).bind fun t262=>((slices_Clone_impl_Job_impl_Job.f l0_2).bind fun t265=>((slices_Clone_impl_Job_impl_Job.f l0_3).bind fun t268=>(some (a0_0,t262,t265,t268)))))=some (r1,r2,r3,r4):=h
 clear h
 obtain ⟨t262, A20, H⟩ := Option.bind_eq_some_iff.mp H
 (try dsimp only at H)
 have A2 := Aside0.mk A20
 clear A20
 obtain ⟨t265, A30, H⟩ := Option.bind_eq_some_iff.mp H
 (try dsimp only at H)
 have A3 := Aside0.mk A30
 clear A30
 obtain ⟨t268, A40, H⟩ := Option.bind_eq_some_iff.mp H
 (try dsimp only at H)
 have A4 := Aside0.mk A40
 clear A40
 simp only [Option.some.injEq, Prod.mk.injEq] at H
 obtain ⟨rfl, rfl, rfl, rfl⟩ := H
 go_enter Try.func25, Try.ntmps25
 try go_wp2_with (first|((with_reducible refine gate_dst (N:=1) rfl ?_);refine box_event ?hg (N:=1) ?hd (cs:=#[.int .i64 a0_0,.slice A0_1 l0_1.length c0_1,.slice A0_2 l0_2.length c0_2,.slice A0_3 l0_3.length c0_3]) (t:=32) ?hr ?_;(case hd=>rfl);(case hg=>rfl);(case hr=>first|(go_simp;done)|(go_simp;rfl));intro gb260 hg w5 hbox hb;have n_:=an_ (below_step (pB_ HB.out) hb)<|an_ (hbox)<|an_ ((by rw [hg];exact (below_size (pB_ HB.out)):w.heap.size≤gb260))<|Aside0.mk ((by rw [hg];exact (below_size (pB_ HB.out)):w.heap.size≤gb260));clear HB;obtain ⟨HB,BK260,GW260,GE260⟩:=n_;clear hb hbox hg)|((with_reducible refine gate_dst (N:=2) rfl ?_);refine box_event ?hg (N:=2) ?hd (cs:=#[.int .i64 0,.slice none 0 0,.slice none 0 0,.slice none 0 0]) (t:=32) ?hr ?_;(case hd=>rfl);(case hg=>rfl);(case hr=>first|(go_simp;done)|(go_simp;rfl));intro gb261 hg w6 hbox hb;have n_:=an_ (blk_below (pk_ BK260.out) hb)<|an_ (below_step (pB_ HB.out) hb)<|an_ (hbox)<|an_ ((by rw [hg];exact (below_size (pB_ HB.out)):w.heap.size≤gb261))<|an_ ((by rw [hg];exact (below_size (pB_ HB.out)):w.heap.size≤gb261))<|an_ ((by rw [hg];exact Nat.ne_of_lt (blk_lt (pk_ BK260.out)):gb260≠gb261))<|Aside0.mk ((by rw [hg];exact Nat.ne_of_gt (blk_lt (pk_ BK260.out)):gb261≠gb260));clear BK260 HB;obtain ⟨BK260,HB,BK261,GW261,GE261,NB260_261,NB261_260⟩:=n_;clear hb hbox hg))
 have n_ := an_ (blk_drew BK260.out) <| an_ (blk_drew BK261.out) <| Aside0.mk (below_drew1 HB.out)
 clear BK260 BK261 HB
 obtain ⟨BK260, BK261, HB⟩ := n_
 refine start_ (n:=13) (S:=fun w'=>w'.cell? ⟨gb260,0,none⟩=some (.int .i64 a0_0)∧w'.cell? ⟨gb260,1,none⟩=some (.slice A0_1 l0_1.length c0_1)∧w'.cell? ⟨gb260,2,none⟩=some (.slice A0_2 l0_2.length c0_2)∧w'.cell? ⟨gb260,3,none⟩=some (.slice A0_3 l0_3.length c0_3)) (ds:=[]) (bz 13 0) (by kernel_rfl) rfl (by kernel_rfl) ⟨(blk_cell BK260.out 0).trans rfl,(blk_cell BK260.out 1).trans rfl,(blk_cell BK260.out 2).trans rfl,(blk_cell BK260.out 3).trans rfl⟩ (fun hHeld=>?_);refine with_tabW impl_copyLine.tab1 impl_copyLine.bits1 (fun HT_ HW_=>?_)
 generalize w6.drew = w7 at BK260 BK261 HB hHeld ⊢
 refine px_ (i := 0) (N := some 3) (bz 13 1) (any_of HT_.out (by kernel_rfl)) ?_
 refine px_ (i := 2) (N := some 5) (bz 13 5) (any_of HT_.out (by kernel_rfl)) ?_
 refine px_ (i := 5) (N := some 8) (bz 13 37) (any_of HT_.out (by kernel_rfl)) ?_
 refine px_ (i := 8) (N := some 11) (bz 13 293) (any_of HT_.out (by kernel_rfl)) ?_
 refine tx_ (i := 1) (N := some 4) (bz 13 295) rfl rfl (take_ofW HT_.out HW_.out (by kernel_rfl)) hHeld Z26 ?_
 refine tx_ (i := 3) (N := some 6) (bz 13 303) rfl rfl (take_ofW HT_.out HW_.out (by kernel_rfl)) hHeld Z26 ?_
 refine tx_ (i := 6) (N := some 9) (bz 13 367) rfl rfl (take_ofW HT_.out HW_.out (by kernel_rfl)) hHeld Z26 ?_
 refine tx_ (i := 9) (N := some 12) (bz 13 879) rfl rfl (take_ofW HT_.out HW_.out (by kernel_rfl)) hHeld Z26 ?_
 refine one_ (i := 4) (N := some 7) (bz 13 895) rfl rfl (one_of HT_.out (by kernel_rfl)) (by decide) (fun K hK => ?_)
 refine goes_ Try.func34 (by kernel_rfl) rfl #[.slice A0_1 l0_1.length c0_1] (by rfl) rfl rfl Z22 ?_
 with_reducible refine (slices_Clone_impl_Job_impl_Job.calls _ _ l0_1 t262 _ ?side1 ?side2 A2.out).mono ?_
 (case side1 => exact pC_ (Kd.C_below HR0_1.out HB.out))
 (case side2 => exact HC0_1.out)
 rintro e w8 ⟨v263, rfl, ho0, hb⟩
 refine ⟨_, rfl, ?_⟩
 have n_ := an_ (Kd.R_lower ho0 (below_size (pB_ HB.out))) <| an_ (blk_below (pk_ BK260.out) hb) <| an_ (blk_below (pk_ BK261.out) hb) <| Aside0.mk (below_step (pB_ HB.out) hb)
 clear BK260 BK261 HB
 obtain ⟨HO264, BK260, BK261, HB⟩ := n_
 (try clear hb)
 (try clear hb2)
 (try clear hk)
 (try clear hi)
 (try clear ho0)
 refine hK.out _ _ ⟨(blk_cell BK260.out 0).trans rfl, (blk_cell BK260.out 1).trans rfl, (blk_cell BK260.out 2).trans rfl, (blk_cell BK260.out 3).trans rfl⟩ (fun hHeld => ?_)
 clear hK K
 refine nx_ (N := some 7) ?_
 refine one_ (i := 7) (N := some 10) (bz 13 1023) rfl rfl (one_of HT_.out (by kernel_rfl)) (by decide) (fun K hK => ?_)
 refine goes_ Try.func34 (by kernel_rfl) rfl #[.slice A0_2 l0_2.length c0_2] (by rfl) rfl rfl Z22 ?_
 with_reducible refine (slices_Clone_impl_Job_impl_Job.calls _ _ l0_2 t265 _ ?side1 ?side2 A3.out).mono ?_
 (case side1 => exact pC_ (Kd.C_below HR0_2.out HB.out))
 (case side2 => exact HC0_2.out)
 rintro e w9 ⟨v266, rfl, ho0, hb⟩
 refine ⟨_, rfl, ?_⟩
 have n_:=an_ (Kd.R_elder' (pR_ HO264.out) (Kd.R_base ho0) hb)<|an_ (Kd.R_lower (nw_ ho0 (pR_ HO264.out)) (below_size (pB_ HB.out)))<|an_ (blk_below (pk_ BK260.out) hb)<|an_ (blk_below (pk_ BK261.out) hb)<|Aside0.mk (below_step (pB_ HB.out) hb)
 clear HO264 BK260 BK261 HB
 obtain ⟨HO264, HO267, BK260, BK261, HB⟩ := n_
 (try clear hb)
 (try clear hb2)
 (try clear hk)
 (try clear hi)
 (try clear ho0)
 refine hK.out _ _ ⟨(blk_cell BK260.out 0).trans rfl, (blk_cell BK260.out 1).trans rfl, (blk_cell BK260.out 2).trans rfl, (blk_cell BK260.out 3).trans rfl⟩ (fun hHeld => ?_)
 clear hK K
 refine nx_ (N := some 10) ?_
 refine one_ (i := 10) (N := some 13) (bz 13 2047) rfl rfl (one_of HT_.out (by kernel_rfl)) (by decide) (fun K hK => ?_)
 refine goes_ Try.func34 (by kernel_rfl) rfl #[.slice A0_3 l0_3.length c0_3] (by rfl) rfl rfl Z22 ?_
 with_reducible refine (slices_Clone_impl_Job_impl_Job.calls _ _ l0_3 t268 _ ?side1 ?side2 A4.out).mono ?_
 (case side1 => exact pC_ (Kd.C_below HR0_3.out HB.out))
 (case side2 => exact HC0_3.out)
 rintro e w10 ⟨v269, rfl, ho0, hb⟩
 refine ⟨_, rfl, ?_⟩
 have n_:=an_ (Kd.R_elder' (pR_ HO264.out) (Kd.R_base ho0) hb)<|an_ (Kd.R_elder' (pR_ HO267.out) (Kd.R_base ho0) hb)<|an_ (Kd.R_lower (nw_ (nw_ ho0 (pR_ HO264.out)) (pR_ HO267.out)) (below_size (pB_ HB.out)))<|an_ (blk_below (pk_ BK260.out) hb)<|an_ (blk_below (pk_ BK261.out) hb)<|Aside0.mk (below_step (pB_ HB.out) hb)
 clear HO264 HO267 BK260 BK261 HB
 obtain ⟨HO264, HO267, HO270, BK260, BK261, HB⟩ := n_
 (try clear hb)
 (try clear hb2)
 (try clear hk)
 (try clear hi)
 (try clear ho0)
 obtain ⟨Ao11, co11, eo11⟩ := Kd.R_slice HO270.out
 (first | subst eo11 | obtain ⟨rfl, rfl⟩ := sl_inj eo11)
 obtain ⟨Ao12, co12, eo12⟩ := Kd.R_slice HO267.out
 (first | subst eo12 | obtain ⟨rfl, rfl⟩ := sl_inj eo12)
 obtain ⟨Ao13, co13, eo13⟩ := Kd.R_slice HO264.out
 (first | subst eo13 | obtain ⟨rfl, rfl⟩ := sl_inj eo13)
 refine hK.out _ _ ⟨(blk_cell BK260.out 0).trans rfl, (blk_cell BK260.out 1).trans rfl, (blk_cell BK260.out 2).trans rfl, (blk_cell BK260.out 3).trans rfl⟩ (fun hHeld => ?_)
 clear hK K
 refine nx_ (N := some 13) ?_
 refine px_ (i := 11) (N := some 14) (bz 13 4095) (any_of HT_.out (by kernel_rfl)) ?_
 refine one_ (i := 12) (N := none) (bz 13 8191) rfl rfl (one_of HT_.out (by kernel_rfl)) (by decide) (fun K hK => ?_)
 have hs14 : w10.cell? ⟨gb261, 0, none⟩ = some (.int .i64 0) := (blk_cell BK261.out 0).trans rfl
 have hfs14 := blk_frozen BK261.out 0
 have hns14_0 := NB260_261.out
 have hms14_0 := NB261_260.out
 have hs15 : w10.cell? ⟨gb261, 1, none⟩ = some (.slice none 0 0) := (blk_cell BK261.out 1).trans rfl
 have hfs15 := blk_frozen BK261.out 1
 have hns15_0 := NB260_261.out
 have hms15_0 := NB261_260.out
 have hs16 : w10.cell? ⟨gb261, 2, none⟩ = some (.slice none 0 0) := (blk_cell BK261.out 2).trans rfl
 have hfs16 := blk_frozen BK261.out 2
 have hns16_0 := NB260_261.out
 have hms16_0 := NB261_260.out
 have hs17 : w10.cell? ⟨gb261, 3, none⟩ = some (.slice none 0 0) := (blk_cell BK261.out 3).trans rfl
 have hfs17 := blk_frozen BK261.out 3
 have hns17_0 := NB260_261.out
 have hms17_0 := NB261_260.out
 refine skip_ (w1 := ?_) (by rfl) rfl ?_ ?_
 rotate_left
 ·go_simp
  rfl
 refine hK.out _ _ ⟨((cell_far (p:=⟨gb261,_,none⟩) NB260_261.out _).trans (((cell_far (p:=⟨gb261,_,none⟩) NB260_261.out _).trans (((cell_far (p:=⟨gb261,_,none⟩) NB260_261.out _).trans (((cell_far (p:=⟨gb261,_,none⟩) NB260_261.out _).trans (hHeld.1)))))))),((cell_far (p:=⟨gb261,_,none⟩) NB260_261.out _).trans (((cell_far (p:=⟨gb261,_,none⟩) NB260_261.out _).trans (((cell_far (p:=⟨gb261,_,none⟩) NB260_261.out _).trans (((cell_far (p:=⟨gb261,_,none⟩) NB260_261.out _).trans (hHeld.2.1)))))))),((cell_far (p:=⟨gb261,_,none⟩) NB260_261.out _).trans (((cell_far (p:=⟨gb261,_,none⟩) NB260_261.out _).trans (((cell_far (p:=⟨gb261,_,none⟩) NB260_261.out _).trans (((cell_far (p:=⟨gb261,_,none⟩) NB260_261.out _).trans (hHeld.2.2.1)))))))),((cell_far (p:=⟨gb261,_,none⟩) NB260_261.out _).trans (((cell_far (p:=⟨gb261,_,none⟩) NB260_261.out _).trans (((cell_far (p:=⟨gb261,_,none⟩) NB260_261.out _).trans (((cell_far (p:=⟨gb261,_,none⟩) NB260_261.out _).trans (hHeld.2.2.2))))))))⟩ (fun hHeld=>?_)
 clear hK K
 refine done_ (done_of HT_.out (by kernel_rfl)) ?_
 try go_wp2
 refine bodyPost_ret (results_cell_row rfl _ _ gb261 32 #[.int .i64 a0_0,.slice Ao13 t262.length co13,.slice Ao12 t265.length co12,.slice Ao11 t268.length co11] (0,0) _ rfl (by (with_reducible repeat (first|refine blk_drewN ?_ _|refine blk_drew ?_|refine blk_alloc ?_ _));refine blk_put (cs:=#[.int .i64 a0_0,.slice Ao13 t262.length co13,.slice Ao12 t265.length co12,.slice none 0 0]) ?_ 3 _ rfl;(with_reducible repeat (first|refine blk_drewN ?_ _|refine blk_drew ?_|refine blk_alloc ?_ _));refine blk_put (cs:=#[.int .i64 a0_0,.slice Ao13 t262.length co13,.slice none 0 0,.slice none 0 0]) ?_ 2 _ rfl;(with_reducible repeat (first|refine blk_drewN ?_ _|refine blk_drew ?_|refine blk_alloc ?_ _));refine blk_put (cs:=#[.int .i64 a0_0,.slice none 0 0,.slice none 0 0,.slice none 0 0]) ?_ 1 _ rfl;(with_reducible repeat (first|refine blk_drewN ?_ _|refine blk_drew ?_|refine blk_alloc ?_ _));refine blk_put (cs:=#[.int .i64 0,.slice none 0 0,.slice none 0 0,.slice none 0 0]) ?_ 0 _ rfl;(with_reducible repeat (first|refine blk_drewN ?_ _|refine blk_drew ?_|refine blk_alloc ?_ _));exact BK261.out) Try.underlying32 rfl (by kernel_rfl)) rfl ?_
 exact ⟨_,_,_,by first|rfl|(simp [errW_none,errW_some] <;> rfl)|(simp [*,errW_none,errW_some] <;> rfl),by (with_reducible repeat (first|apply Kd.R_alloc|apply Kd.R_drewN|apply Kd.R_drew));exact Kd.R_mono (fr_ (fr_ (fr_ (fr_ (Kd.R_types HO264.out BK261.out (by decide)) 0 (.int .i64 a0_0)) 1 (.slice Ao13 t262.length co13)) 2 (.slice Ao12 t265.length co12)) 3 (.slice Ao11 t268.length co11)) (fun _ hk=>⟨hk.1.1.2,hk.1.2⟩),by (with_reducible repeat (first|apply Kd.R_alloc|apply Kd.R_drewN|apply Kd.R_drew));exact Kd.R_mono (fr_ (fr_ (fr_ (fr_ (Kd.R_types HO267.out BK261.out (by decide)) 0 (.int .i64 a0_0)) 1 (.slice Ao13 t262.length co13)) 2 (.slice Ao12 t265.length co12)) 3 (.slice Ao11 t268.length co11)) (fun _ hk=>⟨hk.1.1.2,hk.1.2⟩),by (with_reducible repeat (first|apply Kd.R_alloc|apply Kd.R_drewN|apply Kd.R_drew));exact Kd.R_mono (fr_ (fr_ (fr_ (fr_ (Kd.R_types HO270.out BK261.out (by decide)) 0 (.int .i64 a0_0)) 1 (.slice Ao13 t262.length co13)) 2 (.slice Ao12 t265.length co12)) 3 (.slice Ao11 t268.length co11)) (fun _ hk=>⟨hk.1.1.2,hk.1.2⟩),by repeat (first|(with_reducible first|exact HB.out|apply below_alloc|apply pw_below_drewN|apply below_drew1|refine below_set ?_ GE260.out|refine below_set ?_ GE261.out)|exact HB.out)⟩

/-! ### impl_LinePut: function 8 -/
def impl_LinePut.j0 : Nat → Bool → Int → List (S38) → List (S38) → List (S38) → Int → Int → Int → Int → Option (Int × (List (S38)) × (List (S38)) × (List (S38)) × Int)
 | 0, _, _, _, _, _, _, _, _, _ => none
 | k + 1,x7,x272000,x272001,x272002,x272003,x273000,x273001,x273002,x273003=>if x7=true then (some (0,([]:List (S38)),([]:List (S38)),([]:List (S38)),1)) else ((impl_Line_jobs.f k x272000 x272001 x272002 x272003).bind fun t277=>((slices_ContainsFunc_impl_Job_impl_Job.f k t277 (fun z0_ z1_ z2_ z3_=>impl_LinePut_1.f z0_ z1_ z2_ z3_ x273000 x273001 x273002 x273003)).bind fun t280=>(if t280=true then (some (0,([]:List (S38)),([]:List (S38)),([]:List (S38)),2)) else ((impl_Line_jobs.f k x272000 x272001 x272002 x272003).bind fun t281=>(if (t281.length:Int)=x272000 then (some (0,([]:List (S38)),([]:List (S38)),([]:List (S38)),3)) else ((impl_copyLine.f x272000 x272001 x272002 x272003).bind fun bt284=>(if bt284.2.1.length < 4398046511104 then (some (bt284.1,(bt284.2.1 ++ [(⟨x273000,(⟨x273001,x273002,x273003⟩:S36)⟩:S38)]),bt284.2.2.1,bt284.2.2.2,0)) else (none))))))))
def impl_LinePut.f (k : Nat) (a0_0 : Int) (l0_1 : List (S38)) (l0_2 : List (S38)) (l0_3 : List (S38)) (a1_0 : Int) (a1_1 : Int) (a1_2 : Int) (a1_3 : Int) : Option (Int × (List (S38)) × (List (S38)) × (List (S38)) × Int) := (impl_LineOk.f k a0_0 l0_1 l0_2 l0_3).bind fun t274 => (if t274 = true then ((impl_CostOk.f a1_1 a1_2 a1_3).bind fun t275 => (if t275 = true then ((impl_within.f a1_0 0 1000000000000).bind fun t276 => (impl_LinePut.j0 k (!t276) a0_0 l0_1 l0_2 l0_3 a1_0 a1_1 a1_2 a1_3)) else (impl_LinePut.j0 k true a0_0 l0_1 l0_2 l0_3 a1_0 a1_1 a1_2 a1_3))) else (impl_LinePut.j0 k true a0_0 l0_1 l0_2 l0_3 a1_0 a1_1 a1_2 a1_3))
set_option maxHeartbeats 8000000 in
set_option maxRecDepth 100000 in
theorem impl_LinePut.calls (k : Nat) (a0_0 : Int) (A0_1 : Option Addr) (c0_1 : Nat) (l0_1 : List (S38)) (A0_2 : Option Addr) (c0_2 : Nat) (l0_2 : List (S38)) (A0_3 : Option Addr) (c0_3 : Nat) (l0_3 : List (S38)) (a1_0 : Int) (a1_1 : Int) (a1_2 : Int) (a1_3 : Int) (r1 : Int) (r2 : List (S38)) (r3 : List (S38)) (r4 : List (S38)) (r5 : Int) (w : World) (hr0_1 : Kd.C k38 w A0_1 l0_1.length l0_1) (hc0_1 : l0_1.length ≤ c0_1) (hr0_2 : Kd.C k38 w A0_2 l0_2.length l0_2) (hc0_2 : l0_2.length ≤ c0_2) (hr0_3 : Kd.C k38 w A0_3 l0_3.length l0_3) (hc0_3 : l0_3.length ≤ c0_3) (h : impl_LinePut.f k a0_0 l0_1 l0_2 l0_3 a1_0 a1_1 a1_2 a1_3 = some (r1, r2, r3, r4, r5)) :
  Calls Try.prog 8 #[.agg #[.int .i64 a0_0,.slice A0_1 l0_1.length c0_1,.slice A0_2 l0_2.length c0_2,.slice A0_3 l0_3.length c0_3],.agg #[.int .i64 a1_0,.int .i64 a1_1,.int .i64 a1_2,.int .i64 a1_3]] w fun e w'=>∃ v1_ v2_ v3_:Value,e=.returned (.tuple #[.agg #[.int .i64 r1,v1_,v2_,v3_],.int .i64 r5])∧Kd.R k38 38 w' w.heap.size (fun k_=>some k_≠(v2_:Value).ownBlock∧some k_≠(v3_:Value).ownBlock) v1_ r2∧Kd.R k38 38 w' w.heap.size (fun k_=>some k_≠(v1_:Value).ownBlock∧some k_≠(v3_:Value).ownBlock) v2_ r3∧Kd.R k38 38 w' w.heap.size (fun k_=>some k_≠(v1_:Value).ownBlock∧some k_≠(v2_:Value).ownBlock) v3_ r4∧Below w.heap.size w w':=by
 have hu32 := Try.underlying32
 have hu38 := Try.underlying38
 have hu36 := Try.underlying36
 have hmf : ∀ (fn : Fn) (first cap : Array Value) (w : World), (Instr.makeFunc fn first cap).run Try.prog w = .ok (.func fn first cap) w := fun _ _ _ _ => rfl
 have HR0_1 := Aside0.mk hr0_1
 have HC0_1 := Aside0.mk hc0_1
 clear hr0_1 hc0_1
 have HR0_2 := Aside0.mk hr0_2
 have HC0_2 := Aside0.mk hc0_2
 clear hr0_2 hc0_2
 have HR0_3 := Aside0.mk hr0_3
 have HC0_3 := Aside0.mk hc0_3
 clear hr0_3 hc0_3
 have HB := Aside0.mk (Below.refl w.heap.size w)
 have H:((impl_LineOk.f k a0_0 l0_1 l0_2 l0_3).bind fun Oh=>(if Oh=true then ((impl_CostOk.f a1_1 a1_2 a1_3).bind fun Uh=>(if Uh=true then ((impl_within.f a1_0 0 1000000000000).bind fun Og=>(impl_LinePut.j0 k (!Og) a0_0 l0_1 l0_2 l0_3 a1_0 a1_1 a1_2 a1_3)) else (impl_LinePut.j0 k true a0_0 l0_1 l0_2 l0_3 a1_0 a1_1 a1_2 a1_3))) else (impl_LinePut.j0 k true a0_0 l0_1 l0_2 l0_3 a1_0 a1_1 a1_2 a1_3)))=some (r1,r2,r3,r4,r5):=h
 clear h
 have HC3 := Aside0.mk H
 clear H
 go_enter Try.func8, Try.ntmps8
 go_upto_region 1 with (first|((with_reducible refine gate_dst (N:=2) rfl ?_);refine box_event ?hg (N:=2) ?hd (cs:=#[.int .i64 a0_0,.slice A0_1 l0_1.length c0_1,.slice A0_2 l0_2.length c0_2,.slice A0_3 l0_3.length c0_3]) (t:=32) ?hr ?_;(case hd=>rfl);(case hg=>rfl);(case hr=>first|(go_simp;done)|(go_simp;rfl));intro Uc hg w4 hbox hb;have n_:=an_ (below_step (pB_ HB.out) hb)<|an_ (hbox)<|an_ ((by rw [hg];exact (below_size (pB_ HB.out)):w.heap.size≤Uc))<|Aside0.mk ((by rw [hg];exact (below_size (pB_ HB.out)):w.heap.size≤Uc));clear HB;obtain ⟨HB,Ka,Xr,Ug⟩:=n_;clear hb hbox hg)|((with_reducible refine gate_dst (N:=3) rfl ?_);refine box_event ?hg (N:=3) ?hd (cs:=#[.int .i64 a1_0,.int .i64 a1_1,.int .i64 a1_2,.int .i64 a1_3]) (t:=38) ?hr ?_;(case hd=>rfl);(case hg=>rfl);(case hr=>first|(go_simp;done)|(go_simp;rfl));intro Oa hg w5 hbox hb;have n_:=an_ (blk_below (pk_ Ka.out) hb)<|an_ (below_step (pB_ HB.out) hb)<|an_ (hbox)<|an_ ((by rw [hg];exact (below_size (pB_ HB.out)):w.heap.size≤Oa))<|an_ ((by rw [hg];exact (below_size (pB_ HB.out)):w.heap.size≤Oa))<|an_ ((by rw [hg];exact Nat.ne_of_lt (blk_lt (pk_ Ka.out)):Uc≠Oa))<|Aside0.mk ((by rw [hg];exact Nat.ne_of_gt (blk_lt (pk_ Ka.out)):Oa≠Uc));clear Ka HB;obtain ⟨Ka,HB,Ja,Js,Xg,Uf,Xf⟩:=n_;clear hb hbox hg)|((with_reducible refine gate_dst (N:=4) rfl ?_);refine box_event ?hg (N:=4) ?hd (cs:=#[.int .i64 0,.slice none 0 0,.slice none 0 0,.slice none 0 0]) (t:=32) ?hr ?_;(case hd=>rfl);(case hg=>rfl);(case hr=>first|(go_simp;done)|(go_simp;rfl));intro Mc hg w6 hbox hb;have n_:=an_ (blk_below (pk_ Ka.out) hb)<|an_ (blk_below (pk_ Ja.out) hb)<|an_ (below_step (pB_ HB.out) hb)<|an_ (hbox)<|an_ ((by rw [hg];exact (below_size (pB_ HB.out)):w.heap.size≤Mc))<|an_ ((by rw [hg];exact (below_size (pB_ HB.out)):w.heap.size≤Mc))<|an_ ((by rw [hg];exact Nat.ne_of_lt (blk_lt (pk_ Ka.out)):Uc≠Mc))<|an_ ((by rw [hg];exact Nat.ne_of_gt (blk_lt (pk_ Ka.out)):Mc≠Uc))<|an_ ((by rw [hg];exact Nat.ne_of_lt (blk_lt (pk_ Ja.out)):Oa≠Mc))<|Aside0.mk ((by rw [hg];exact Nat.ne_of_gt (blk_lt (pk_ Ja.out)):Mc≠Oa));clear Ka Ja HB;obtain ⟨Ka,Ja,HB,Ma,Ks,Jh,Ue,Xe,Kf,Mf⟩:=n_;clear hb hbox hg))
 (try simp only [Act.put, List.setIfInBounds_toArray, List.set_cons_zero, List.set_cons_succ])
 go_cut [7] (fun v7 wc=>∃ (kq:Nat) (x7_2:Bool),v7=.bool x7_2∧Aside0 (impl_LinePut.j0 kq x7_2 a0_0 l0_1 l0_2 l0_3 a1_0 a1_1 a1_2 a1_3=some (r1,r2,r3,r4,r5))∧Aside0 (kq≤k)∧Aside0 (wc.heap[Uc]?=some (.cells #[.int .i64 a0_0,(.slice A0_1 l0_1.length c0_1),(.slice A0_2 l0_2.length c0_2),(.slice A0_3 l0_3.length c0_3)] 32 (0,0)))∧Aside0 (wc.heap[Oa]?=some (.cells #[.int .i64 a1_0,.int .i64 a1_1,.int .i64 a1_2,.int .i64 a1_3] 38 (0,0)))∧Aside0 (wc.heap[Mc]?=some (.cells #[.int .i64 0,(.slice none 0 0),(.slice none 0 0),(.slice none 0 0)] 32 (0,0)))∧Aside0 (Below w.heap.size w wc))
 case first =>
  have H := HC3.out; clear HC3; obtain ⟨Oh, A70, H⟩ := Option.bind_eq_some_iff.mp H; (try dsimp only at H); have A7 := Aside0.mk A70; clear A70
  by_cases c8 : Oh = true
  ·subst c8
   rw [if_pos rfl] at H; obtain ⟨Uh, A90, H⟩ := Option.bind_eq_some_iff.mp H; (try dsimp only at H); have A9 := Aside0.mk A90; clear A90
   by_cases c10 : Uh = true
   ·subst c10
    rw [if_pos rfl] at H;obtain ⟨Og,A110,H⟩:=Option.bind_eq_some_iff.mp H;(try dsimp only at H);have A11:=Aside0.mk A110;clear A110;have H':=Aside0.mk H;clear H;(try have hnb12:=Uf.out);(try have hnc12:=Xf.out);(try have hnb13:=Ue.out);(try have hnc13:=Xe.out);obtain ⟨Ki,Mi,Oi,Ui,Xi,Jj,Kj,Mj⟩:=cells4 Ka.out
    go_wp2_with (first|((with_reducible refine gate_callee (f:=19) rfl ?_);refine goesL_ (some 9) rfl rfl Try.func19 (by kernel_rfl) rfl #[.agg #[.int .i64 a0_0,.slice A0_1 l0_1.length c0_1,.slice A0_2 l0_2.length c0_2,.slice A0_3 l0_3.length c0_3]] rfl Z22 ?_;(with_reducible refine (impl_LineOk.calls k a0_0 _ _ l0_1 _ _ l0_2 _ _ l0_3 true _ ?side1 ?side2 ?side3 ?side4 ?side5 ?side6 A7.out).mono ?_);(case side1=>exact pC_ (Kd.C_below HR0_1.out HB.out));(case side2=>exact HC0_1.out);(case side3=>exact pC_ (Kd.C_below HR0_2.out HB.out));(case side4=>exact HC0_2.out);(case side5=>exact pC_ (Kd.C_below HR0_3.out HB.out));(case side6=>exact HC0_3.out);rintro e w15 ⟨rfl,hb⟩;refine ⟨_,rfl,?_⟩;have n_:=an_ (blk_below (pk_ Ka.out) hb)<|an_ (blk_below (pk_ Ja.out) hb)<|an_ (blk_below (pk_ Ma.out) hb)<|Aside0.mk (below_step (pB_ HB.out) hb);clear Ka Ja Ma HB;obtain ⟨Ka,Ja,Ma,HB⟩:=n_;(try clear hb);(try clear hb2);(try clear hk);(try clear hi);(try have hnb16:=Kf.out);(try have hnc16:=Mf.out);have Oj:w15.cell? ⟨Oa,0,none⟩=some (.int .i64 a1_0):=(blk_cell Ja.out 0).trans rfl;have Uj:w15.cell? ⟨Oa,1,none⟩=some (.int .i64 a1_1):=(blk_cell Ja.out 1).trans rfl;have Xj:w15.cell? ⟨Oa,2,none⟩=some (.int .i64 a1_2):=(blk_cell Ja.out 2).trans rfl;have Jk:w15.cell? ⟨Oa,3,none⟩=some (.int .i64 a1_3):=(blk_cell Ja.out 3).trans rfl;have Kk:=blk_frozen Ja.out 0;have Mk:=blk_frozen Ja.out 1;have Ok:=blk_frozen Ja.out 2;have Uk:=blk_frozen Ja.out 3)|(go_at_call 20;(with_reducible refine (impl_CostOk.calls a1_1 a1_2 a1_3 true _ A9.out).mono ?_);rintro e w18 ⟨rfl,hb⟩;have n_:=an_ (blk_below (pk_ Ka.out) hb)<|an_ (blk_below (pk_ Ja.out) hb)<|an_ (blk_below (pk_ Ma.out) hb)<|Aside0.mk (below_step (pB_ HB.out) hb);clear Ka Ja Ma HB;obtain ⟨Ka,Ja,Ma,HB⟩:=n_;(try clear hb);(try clear hb2);(try clear hk);(try clear hi);have Xk:w18.cell? ⟨Oa,0,none⟩=some (.int .i64 a1_0):=(blk_cell Ja.out 0).trans rfl;have Jm:w18.cell? ⟨Oa,1,none⟩=some (.int .i64 a1_1):=(blk_cell Ja.out 1).trans rfl;have Km:w18.cell? ⟨Oa,2,none⟩=some (.int .i64 a1_2):=(blk_cell Ja.out 2).trans rfl;have Mm:w18.cell? ⟨Oa,3,none⟩=some (.int .i64 a1_3):=(blk_cell Ja.out 3).trans rfl;have Om:=blk_frozen Ja.out 0;have Um:=blk_frozen Ja.out 1;have Xm:=blk_frozen Ja.out 2;have Jn:=blk_frozen Ja.out 3)|(go_at_call 21;(with_reducible refine (impl_within.calls a1_0 0 1000000000000 Og _ A11.out).mono ?_);rintro e w' ⟨rfl,⟨nd,rfl⟩⟩))
    go_meet
    case rel => exact ⟨_, (!Og), Z28, H', ⟨by first | omega | exact Nat.le_refl _⟩, ⟨pk_ Ka.out⟩, ⟨pk_ Ja.out⟩, ⟨pk_ Ma.out⟩, ⟨pB_ HB.out⟩⟩
   ·replace c10 := Bool.eq_false_iff.mpr c10
    subst c10;rw [if_neg (show ¬ (false=true) by decide)] at H;have H':=Aside0.mk H;clear H;(try have hnb20:=Uf.out);(try have hnc20:=Xf.out);(try have hnb21:=Ue.out);(try have hnc21:=Xe.out);obtain ⟨Kn,Mn,On,Un,Xn,Jo,Ko,Mo⟩:=cells4 Ka.out
    go_wp2_with (first|((with_reducible refine gate_callee (f:=19) rfl ?_);refine goesL_ (some 9) rfl rfl Try.func19 (by kernel_rfl) rfl #[.agg #[.int .i64 a0_0,.slice A0_1 l0_1.length c0_1,.slice A0_2 l0_2.length c0_2,.slice A0_3 l0_3.length c0_3]] rfl Z22 ?_;(with_reducible refine (impl_LineOk.calls k a0_0 _ _ l0_1 _ _ l0_2 _ _ l0_3 true _ ?side1 ?side2 ?side3 ?side4 ?side5 ?side6 A7.out).mono ?_);(case side1=>exact pC_ (Kd.C_below HR0_1.out HB.out));(case side2=>exact HC0_1.out);(case side3=>exact pC_ (Kd.C_below HR0_2.out HB.out));(case side4=>exact HC0_2.out);(case side5=>exact pC_ (Kd.C_below HR0_3.out HB.out));(case side6=>exact HC0_3.out);rintro e w23 ⟨rfl,hb⟩;refine ⟨_,rfl,?_⟩;have n_:=an_ (blk_below (pk_ Ka.out) hb)<|an_ (blk_below (pk_ Ja.out) hb)<|an_ (blk_below (pk_ Ma.out) hb)<|Aside0.mk (below_step (pB_ HB.out) hb);clear Ka Ja Ma HB;obtain ⟨Ka,Ja,Ma,HB⟩:=n_;(try clear hb);(try clear hb2);(try clear hk);(try clear hi);(try have hnb24:=Kf.out);(try have hnc24:=Mf.out);have Oo:w23.cell? ⟨Oa,0,none⟩=some (.int .i64 a1_0):=(blk_cell Ja.out 0).trans rfl;have Uo:w23.cell? ⟨Oa,1,none⟩=some (.int .i64 a1_1):=(blk_cell Ja.out 1).trans rfl;have Xo:w23.cell? ⟨Oa,2,none⟩=some (.int .i64 a1_2):=(blk_cell Ja.out 2).trans rfl;have Jp:w23.cell? ⟨Oa,3,none⟩=some (.int .i64 a1_3):=(blk_cell Ja.out 3).trans rfl;have Kp:=blk_frozen Ja.out 0;have Mp:=blk_frozen Ja.out 1;have Op:=blk_frozen Ja.out 2;have Up:=blk_frozen Ja.out 3)|(go_at_call 20;(with_reducible refine (impl_CostOk.calls a1_1 a1_2 a1_3 false _ A9.out).mono ?_);rintro e w26 ⟨rfl,hb⟩;have n_:=an_ (blk_below (pk_ Ka.out) hb)<|an_ (blk_below (pk_ Ja.out) hb)<|an_ (blk_below (pk_ Ma.out) hb)<|Aside0.mk (below_step (pB_ HB.out) hb);clear Ka Ja Ma HB;obtain ⟨Ka,Ja,Ma,HB⟩:=n_;(try clear hb);(try clear hb2);(try clear hk);(try clear hi)))
    go_meet
    case rel => exact ⟨_, (true), Z28, H', ⟨by first | omega | exact Nat.le_refl _⟩, ⟨pk_ Ka.out⟩, ⟨pk_ Ja.out⟩, ⟨pk_ Ma.out⟩, ⟨pB_ HB.out⟩⟩
  ·replace c8 := Bool.eq_false_iff.mpr c8
   subst c8;rw [if_neg (show ¬ (false=true) by decide)] at H;have H':=Aside0.mk H;clear H;(try have hnb27:=Uf.out);(try have hnc27:=Xf.out);(try have hnb28:=Ue.out);(try have hnc28:=Xe.out);obtain ⟨Xp,Jq,Kq,Mq,Oq,Uq,Xq,Jr⟩:=cells4 Ka.out
   go_wp2_with (first|((with_reducible refine gate_callee (f:=19) rfl ?_);refine goesL_ (some 9) rfl rfl Try.func19 (by kernel_rfl) rfl #[.agg #[.int .i64 a0_0,.slice A0_1 l0_1.length c0_1,.slice A0_2 l0_2.length c0_2,.slice A0_3 l0_3.length c0_3]] rfl Z22 ?_;(with_reducible refine (impl_LineOk.calls k a0_0 _ _ l0_1 _ _ l0_2 _ _ l0_3 false _ ?side1 ?side2 ?side3 ?side4 ?side5 ?side6 A7.out).mono ?_);(case side1=>exact pC_ (Kd.C_below HR0_1.out HB.out));(case side2=>exact HC0_1.out);(case side3=>exact pC_ (Kd.C_below HR0_2.out HB.out));(case side4=>exact HC0_2.out);(case side5=>exact pC_ (Kd.C_below HR0_3.out HB.out));(case side6=>exact HC0_3.out);rintro e w30 ⟨rfl,hb⟩;refine ⟨_,rfl,?_⟩;have n_:=an_ (blk_below (pk_ Ka.out) hb)<|an_ (blk_below (pk_ Ja.out) hb)<|an_ (blk_below (pk_ Ma.out) hb)<|Aside0.mk (below_step (pB_ HB.out) hb);clear Ka Ja Ma HB;obtain ⟨Ka,Ja,Ma,HB⟩:=n_;(try clear hb);(try clear hb2);(try clear hk);(try clear hi)))
   go_meet
   case rel => exact ⟨_, (true), Z28, H', ⟨by first | omega | exact Nat.le_refl _⟩, ⟨pk_ Ka.out⟩, ⟨pk_ Ja.out⟩, ⟨pk_ Ma.out⟩, ⟨pB_ HB.out⟩⟩
 case rest =>
  clear HC3
  try clear c1
  try clear c2
  try clear p2
  try clear c8
  try clear c10
  try clear c12
  try clear c13
  try clear c16
  try clear c19
  try clear c20
  try clear c21
  try clear c24
  try clear c27
  try clear c28
  try clear Ki Mi Oi Ui Xi Jj Kj Mj
  try clear Oj Uj Xj Jk Kk Mk Ok Uk
  try clear Xk Jm Km Mm Om Um Xm Jn
  try clear Kn Mn On Un Xn Jo Ko Mo
  try clear Oo Uo Xo Jp Kp Mp Op Up
  try clear Xp Jq Kq Mq Oq Uq Xq Jr
  obtain ⟨kq, x7_2, rfl, HA, HJ2, Ka, Ja, Ma, HB⟩ := hcut
  cases kq with
  | zero => exact absurd HA.out (by simp [impl_LinePut.j0])
  | succ kj2 =>
   have H := HA.out; clear HA; simp only [impl_LinePut.j0] at H
   by_cases c31 : x7_2 = true
   ·subst c31
    rw [if_pos rfl] at H;simp only [Option.some.injEq,Prod.mk.injEq] at H;obtain ⟨rfl,rfl,rfl,rfl,rfl⟩:=H;(try have hnb32:=Xe.out);(try have hnc32:=Ue.out);(try have hnb33:=Mf.out);(try have hnc33:=Kf.out);obtain ⟨Ms,Os,Us,Xs,Ju,Ku,Mu,Ou⟩:=cells4 Ma.out
    go_wp2
    refine bodyPost_ret (results_ct rfl _ _ Mc 32 #[.int .i64 0,.slice none 0 0,.slice none 0 0,.slice none 0 0] (0,0) _ rfl Z4 Try.underlying32 rfl (by kernel_rfl)) rfl ?_;exact ⟨_,_,_,by first|rfl|(simp [errW_none,errW_some] <;> rfl)|(simp [*,errW_none,errW_some] <;> rfl),by first|exact Kd.R_nil _ _ _ _ _|exact Kd.N_nil _ _ _ _ _|exact Kd.V_nil _ _ _ _ _|exact Kd.Q_nil _ _ _ _ _|exact Kd.S_nil _ _ _ _ _,by first|exact Kd.R_nil _ _ _ _ _|exact Kd.N_nil _ _ _ _ _|exact Kd.V_nil _ _ _ _ _|exact Kd.Q_nil _ _ _ _ _|exact Kd.S_nil _ _ _ _ _,by first|exact Kd.R_nil _ _ _ _ _|exact Kd.N_nil _ _ _ _ _|exact Kd.V_nil _ _ _ _ _|exact Kd.Q_nil _ _ _ _ _|exact Kd.S_nil _ _ _ _ _,by repeat (first|(with_reducible first|exact HB.out|apply below_alloc|apply pw_below_drewN|apply below_drew1|refine below_set ?_ Ug.out|refine below_set ?_ Xg.out|refine below_set ?_ Jh.out)|exact HB.out)⟩
   ·replace c31 := Bool.eq_false_iff.mpr c31
    subst c31;rw [if_neg (show ¬ (false=true) by decide)] at H;obtain ⟨Jf,A350,H⟩:=Option.bind_eq_some_iff.mp H;(try dsimp only at H);have A35:=Aside0.mk A350;clear A350;obtain ⟨Xh,A360,H⟩:=Option.bind_eq_some_iff.mp H;(try dsimp only at H);have A36:=Aside0.mk A360;clear A360;have HU37:=Aside0.mk H;clear H;(try have hnb38:=Uf.out);(try have hnc38:=Xf.out);(try have hnb39:=Ue.out);(try have hnc39:=Xe.out);obtain ⟨Uu,Xu,Jv,Kv,Mv,Ov,Uv,Xv⟩:=cells4 Ka.out
    go_upto_if 24 with (first|((with_reducible refine gate_callee (f:=23) rfl ?_);refine goesL_ (some 26) rfl rfl Try.func23 (by kernel_rfl) rfl #[.agg #[.int .i64 a0_0,.slice A0_1 l0_1.length c0_1,.slice A0_2 l0_2.length c0_2,.slice A0_3 l0_3.length c0_3]] rfl Z22 ?_;(with_reducible refine (impl_Line_jobs.calls kj2 a0_0 (fun k_=>k_ < w.heap.size) _ _ l0_1 (fun k_=>k_ < w.heap.size) _ _ l0_2 (fun k_=>k_ < w.heap.size) _ _ l0_3 Jf _ ?side1 ?side2 ?side3 A35.out).mono ?_);(case side1=>exact Kd.V_mk HC0_1.out (Kd.F_below (Kd.C_F k38_heap HR0_1.out) (pB_ HB.out)));(case side2=>exact Kd.V_mk HC0_2.out (Kd.F_below (Kd.C_F k38_heap HR0_2.out) (pB_ HB.out)));(case side3=>exact Kd.V_mk HC0_3.out (Kd.F_below (Kd.C_F k38_heap HR0_3.out) (pB_ HB.out)));rintro e w41 ⟨Jx,rfl,ho0,hb⟩;refine ⟨_,rfl,?_⟩;have n_:=an_ (Kd.R_lower (Kd.R_newB (Kd.R_mono (ok':=fun k_=>True) ho0 (fun _ hk_=>trivial)) (pk_ Ja.out)) (below_size (pB_ HB.out)))<|an_ (blk_below (pk_ Ka.out) hb)<|an_ (blk_below (pk_ Ja.out) hb)<|an_ (blk_below (pk_ Ma.out) hb)<|Aside0.mk (below_step (pB_ HB.out) hb);clear Ka Ja Ma HB;obtain ⟨Xa,Ka,Ja,Ma,HB⟩:=n_;(try clear hb);(try clear hb2);(try clear hk);(try clear hi);(try clear ho0);obtain ⟨Jg,Kg,eo42⟩:=Kd.R_slice Xa.out;subst eo42)|((with_reducible refine gate_callee (f:=22) rfl ?_);refine goesL_ (some 28) rfl rfl Try.func22 (by kernel_rfl) rfl #[.slice Jg Jf.length Kg,.func (.func 24) #[] #[.pointer (some ⟨Oa,0,none⟩)]] rfl Z22 ?_;(with_reducible refine (slices_ContainsFunc_impl_Job_impl_Job.calls kj2 _ _ Jf (fun z0_ z1_ z2_ z3_=>impl_LinePut_1.f z0_ z1_ z2_ z3_ a1_0 a1_1 a1_2 a1_3) 24 #[.pointer (some ⟨Oa,0,none⟩)] Xh _ ?side1 ?side2 ?side3 ?side4 A36.out).mono ?_);(case side1=>exact pC_ ((Kd.R_reads' Xa.out).2.2));(case side2=>exact (Kd.R_reads' Xa.out).2.1);(case side3=>exact ⟨⟨_,Try.func24,by kernel_rfl,rfl⟩⟩);(case side4=>refine ⟨?_⟩;intro a900_0 a900_1 a900_2 a900_3 rr0_ W_ hW_ h_;refine calls_of_args (args':=#[.agg #[.int .i64 a900_0,.int .i64 a900_1,.int .i64 a900_2,.int .i64 a900_3],.pointer (some ⟨Oa,0,none⟩)]) (by simp) ?_;refine (impl_LinePut_1.calls a900_0 a900_1 a900_2 a900_3 Oa a1_0 a1_1 a1_2 a1_3 rr0_ W_ (blk_below (pk_ Ja.out) hW_) h_).mono ?_;rintro e w' ⟨rfl,hd_⟩;exact ⟨rfl,hd_⟩);rintro e w43 ⟨rfl,hb⟩;refine ⟨_,rfl,?_⟩;have n_:=an_ (Kd.R_below (pR_ Xa.out) hb)<|an_ (blk_below (pk_ Ka.out) hb)<|an_ (blk_below (pk_ Ja.out) hb)<|an_ (blk_below (pk_ Ma.out) hb)<|Aside0.mk (below_step (pB_ HB.out) hb);clear Xa Ka Ja Ma HB;obtain ⟨Xa,Ka,Ja,Ma,HB⟩:=n_;(try clear hb);(try clear hb2);(try clear hk);(try clear hi)))
    have H := HU37.out; clear HU37
    by_cases c44 : Xh = true
    ·subst c44
     rw [if_pos rfl] at H;simp only [Option.some.injEq,Prod.mk.injEq] at H;obtain ⟨rfl,rfl,rfl,rfl,rfl⟩:=H;(try have hnb45:=Xe.out);(try have hnc45:=Ue.out);(try have hnb46:=Mf.out);(try have hnc46:=Kf.out);obtain ⟨Kx,Mx,Ox,Ux,Xx,Jy,Ky,My⟩:=cells4 Ma.out
     go_wp2
     refine bodyPost_ret (results_ct rfl _ _ Mc 32 #[.int .i64 0,.slice none 0 0,.slice none 0 0,.slice none 0 0] (0,0) _ rfl Z4 Try.underlying32 rfl (by kernel_rfl)) rfl ?_;exact ⟨_,_,_,by first|rfl|(simp [errW_none,errW_some] <;> rfl)|(simp [*,errW_none,errW_some] <;> rfl),by first|exact Kd.R_nil _ _ _ _ _|exact Kd.N_nil _ _ _ _ _|exact Kd.V_nil _ _ _ _ _|exact Kd.Q_nil _ _ _ _ _|exact Kd.S_nil _ _ _ _ _,by first|exact Kd.R_nil _ _ _ _ _|exact Kd.N_nil _ _ _ _ _|exact Kd.V_nil _ _ _ _ _|exact Kd.Q_nil _ _ _ _ _|exact Kd.S_nil _ _ _ _ _,by first|exact Kd.R_nil _ _ _ _ _|exact Kd.N_nil _ _ _ _ _|exact Kd.V_nil _ _ _ _ _|exact Kd.Q_nil _ _ _ _ _|exact Kd.S_nil _ _ _ _ _,by repeat (first|(with_reducible first|exact HB.out|apply below_alloc|apply pw_below_drewN|apply below_drew1|refine below_set ?_ Ug.out|refine below_set ?_ Xg.out|refine below_set ?_ Jh.out)|exact HB.out)⟩
    ·replace c44 := Bool.eq_false_iff.mpr c44
     subst c44;rw [if_neg (show ¬ (false=true) by decide)] at H;obtain ⟨Od,A480,H⟩:=Option.bind_eq_some_iff.mp H;(try dsimp only at H);have A48:=Aside0.mk A480;clear A480;have HU49:=Aside0.mk H;clear H
     try go_wp2
     have n_ := an_ (Kd.R_drew Xa.out) <| an_ (blk_drew Ka.out) <| an_ (blk_drew Ja.out) <| an_ (blk_drew Ma.out) <| Aside0.mk (below_drew1 HB.out)
     clear Xa Ka Ja Ma HB;obtain ⟨Xa,Ka,Ja,Ma,HB⟩:=n_;refine start_ (n:=7) (S:=fun w'=>w'.cell? ⟨Uc,0,none⟩=some (.int .i64 a0_0)∧w'.cell? ⟨Uc,1,none⟩=some (.slice A0_1 l0_1.length c0_1)∧w'.cell? ⟨Uc,2,none⟩=some (.slice A0_2 l0_2.length c0_2)∧w'.cell? ⟨Uc,3,none⟩=some (.slice A0_3 l0_3.length c0_3)) (ds:=[]) (bz 7 0) (by kernel_rfl) rfl (by kernel_rfl) ⟨(blk_cell Ka.out 0).trans rfl,(blk_cell Ka.out 1).trans rfl,(blk_cell Ka.out 2).trans rfl,(blk_cell Ka.out 3).trans rfl⟩ (fun hHeld=>?_);generalize w43.drew=w50 at Xa Ka Ja Ma HB hHeld ⊢;refine px_ (i:=3) (N:=some 34) (bz 7 8) (by kernel_rfl) ?_;refine tx_ (i:=0) (N:=some 31) (bz 7 9) rfl rfl (by kernel_rfl) hHeld Z26 ?_;refine tx_ (i:=4) (N:=some 35) (bz 7 25) rfl rfl (by kernel_rfl) hHeld Z26 ?_;refine one_ (i:=1) (N:=some 32) (bz 7 27) rfl rfl (by kernel_rfl) (by decide) (fun K hK=>?_);refine goes_ Try.func23 (by kernel_rfl) rfl #[.agg #[.int .i64 a0_0,.slice A0_1 l0_1.length c0_1,.slice A0_2 l0_2.length c0_2,.slice A0_3 l0_3.length c0_3]] (by rfl) rfl rfl Z22 ?_;with_reducible refine (impl_Line_jobs.calls kj2 a0_0 (fun k_=>k_ < w.heap.size) _ _ l0_1 (fun k_=>k_ < w.heap.size) _ _ l0_2 (fun k_=>k_ < w.heap.size) _ _ l0_3 Od _ ?side1 ?side2 ?side3 A48.out).mono ?_
     (case side1=>exact Kd.V_mk HC0_1.out (Kd.F_below (Kd.C_F k38_heap HR0_1.out) (pB_ HB.out)));(case side2=>exact Kd.V_mk HC0_2.out (Kd.F_below (Kd.C_F k38_heap HR0_2.out) (pB_ HB.out)));(case side3=>exact Kd.V_mk HC0_3.out (Kd.F_below (Kd.C_F k38_heap HR0_3.out) (pB_ HB.out)));rintro e w51 ⟨Oy,rfl,ho0,hb⟩;refine ⟨_,rfl,?_⟩
     have n_:=an_ (Kd.R_elder' (pR_ Xa.out) (Kd.R_base ho0) hb)<|an_ (Kd.R_lower (Kd.R_newB (nw_ (Kd.R_mono (ok':=fun k_=>True) ho0 (fun _ hk_=>trivial)) (pR_ Xa.out)) (pk_ Ja.out)) (below_size (pB_ HB.out)))<|an_ (blk_below (pk_ Ka.out) hb)<|an_ (blk_below (pk_ Ja.out) hb)<|an_ (blk_below (pk_ Ma.out) hb)<|Aside0.mk (below_step (pB_ HB.out) hb)
     clear Xa Ka Ja Ma HB;obtain ⟨Xa,Xc,Ka,Ja,Ma,HB⟩:=n_;(try clear hb);(try clear hb2);(try clear hk);(try clear hi);(try clear ho0);obtain ⟨Kh,Mh,eo52⟩:=Kd.R_slice Xc.out;(first|subst eo52|obtain ⟨rfl,rfl⟩:=sl_inj eo52);refine hK.out _ _ ⟨(blk_cell Ka.out 0).trans rfl,(blk_cell Ka.out 1).trans rfl,(blk_cell Ka.out 2).trans rfl,(blk_cell Ka.out 3).trans rfl⟩ (fun hHeld=>?_);clear hK K;refine nx_ (N:=some 32) ?_;refine px_ (i:=2) (N:=some 33) (bz 7 31) (by kernel_rfl) ?_;refine px_ (i:=5) (N:=some 36) (bz 7 63) (by kernel_rfl) ?_;refine px_ (i:=6) (N:=some 30) (bz 7 127) (by kernel_rfl) ?_;refine done_ (by kernel_rfl) ?_
     go_upto_if 30 with (fail)
     have H := HU49.out; clear HU49
     by_cases c53 : (Od.length : Int) = a0_0
     ·rw [if_pos c53] at H
      have c53b0:((Od.length:Int) == a0_0)=true:=beq_iff_eq.mpr c53;have c53b1:((Od.length:Int) != a0_0)=false:=bne_eq_false_iff_eq.mpr c53;clear c53;(first|rw [c53b0]|(simp only [i64_w,i32_w];rw [c53b0])|(have cz_:=c53b0;simp only [bne,gt_iff_lt,Int.natCast_pos] at cz_;first|rw [cz_]|(simp only [i64_w,i32_w];rw [cz_]))|skip);simp only [Option.some.injEq,Prod.mk.injEq] at H;obtain ⟨rfl,rfl,rfl,rfl,rfl⟩:=H;(try have hnb54:=Xe.out);(try have hnc54:=Ue.out);(try have hnb55:=Mf.out);(try have hnc55:=Kf.out);obtain ⟨Uy,Xy,Jz,Kz,Mz,Oz,Uz,Xz⟩:=cells4 Ma.out
      go_wp2
      refine bodyPost_ret (results_ct rfl _ _ Mc 32 #[.int .i64 0,.slice none 0 0,.slice none 0 0,.slice none 0 0] (0,0) _ rfl Z4 Try.underlying32 rfl (by kernel_rfl)) rfl ?_;exact ⟨_,_,_,by first|rfl|(simp [errW_none,errW_some] <;> rfl)|(simp [*,errW_none,errW_some] <;> rfl),by first|exact Kd.R_nil _ _ _ _ _|exact Kd.N_nil _ _ _ _ _|exact Kd.V_nil _ _ _ _ _|exact Kd.Q_nil _ _ _ _ _|exact Kd.S_nil _ _ _ _ _,by first|exact Kd.R_nil _ _ _ _ _|exact Kd.N_nil _ _ _ _ _|exact Kd.V_nil _ _ _ _ _|exact Kd.Q_nil _ _ _ _ _|exact Kd.S_nil _ _ _ _ _,by first|exact Kd.R_nil _ _ _ _ _|exact Kd.N_nil _ _ _ _ _|exact Kd.V_nil _ _ _ _ _|exact Kd.Q_nil _ _ _ _ _|exact Kd.S_nil _ _ _ _ _,by repeat (first|(with_reducible first|exact HB.out|apply below_alloc|apply pw_below_drewN|apply below_drew1|refine below_set ?_ Ug.out|refine below_set ?_ Xg.out|refine below_set ?_ Jh.out)|exact HB.out)⟩
     ·rw [if_neg c53] at H
      have c53b0:((Od.length:Int) == a0_0)=false:=beq_eq_false_iff_ne.mpr c53;have c53b1:((Od.length:Int) != a0_0)=true:=bne_iff_ne.mpr c53;(first|rw [c53b0]|(simp only [i64_w,i32_w];rw [c53b0])|(have cz_:=c53b0;simp only [bne,gt_iff_lt,Int.natCast_pos] at cz_;first|rw [cz_]|(simp only [i64_w,i32_w];rw [cz_]))|skip);obtain ⟨⟨Jb,Oc,Kb,Mb⟩,A570,H⟩:=Option.bind_eq_some_iff.mp H;(try dsimp only at H);have A57:=Aside0.mk A570;clear A570
      by_cases c58 : Oc.length < 4398046511104
      ·rw [if_pos c58] at H
       have LMc58 := Aside0.mk c58; clear c58; obtain ⟨y295, hy295⟩ : ∃ y_ : List (S38), y_ = (Oc ++ [(⟨a1_0, (⟨a1_1, a1_2, a1_3⟩ : S36)⟩ : S38)]) := ⟨_, rfl⟩
       replace H:(some (Jb,y295,Kb,Mb,0))=some (r1,r2,r3,r4,r5):=by first|(rw [hy295];with_reducible exact H)|(have H2_:=(Option.bind_some _ _).symm.trans H;rw [hy295];with_reducible exact H2_)|(have H2_:=(Option.bind_some _ _).symm.trans H;with_reducible exact H2_)|with_reducible exact H|(rw [hy295];exact H)|exact H
       have Ny295:=Aside0.mk hy295;clear hy295;simp only [Option.some.injEq,Prod.mk.injEq] at H;obtain ⟨rfl,rfl,rfl,rfl,rfl⟩:=H;(try have hnb59:=Uf.out);(try have hnc59:=Xf.out);(try have hnb60:=Ue.out);(try have hnc60:=Xe.out);obtain ⟨Ja1,Ka1,Ma1,Oa1,Ua1,Xa1,Jb1,Kb1⟩:=cells4 Ka.out
       go_wp2_with (first|((with_reducible refine gate_callee (f:=25) rfl ?_);refine goesL_ (some 39) rfl rfl Try.func25 (by kernel_rfl) rfl #[.agg #[.int .i64 a0_0,.slice A0_1 l0_1.length c0_1,.slice A0_2 l0_2.length c0_2,.slice A0_3 l0_3.length c0_3]] rfl Z22 ?_;(with_reducible refine (impl_copyLine.calls a0_0 _ _ l0_1 _ _ l0_2 _ _ l0_3 Jb Oc Kb Mb _ ?side1 ?side2 ?side3 ?side4 ?side5 ?side6 A57.out).mono ?_);(case side1=>exact pC_ (Kd.C_below HR0_1.out HB.out));(case side2=>exact HC0_1.out);(case side3=>exact pC_ (Kd.C_below HR0_2.out HB.out));(case side4=>exact HC0_2.out);(case side5=>exact pC_ (Kd.C_below HR0_3.out HB.out));(case side6=>exact HC0_3.out);rintro e w62 ⟨Mb1,Ob1,Ub1,rfl,ho0,ho1,ho2,hb⟩;refine ⟨_,rfl,?_⟩;have n_:=an_ (told3_ (pR_ Xa.out) hb (Kd.R_base ho0) (Kd.R_base ho1) (Kd.R_base ho2))<|an_ (told3_ (pR_ Xc.out) hb (Kd.R_base ho0) (Kd.R_base ho1) (Kd.R_base ho2))<|an_ (Kd.R_lower (Kd.R_newB (nw_ (nw_ ho0 (pR_ Xa.out)) (pR_ Xc.out)) (pk_ Ja.out)) (below_size (pB_ HB.out)))<|an_ (Kd.R_lower (Kd.R_newB (nw_ (nw_ ho1 (pR_ Xa.out)) (pR_ Xc.out)) (pk_ Ja.out)) (below_size (pB_ HB.out)))<|an_ (Kd.R_lower (Kd.R_newB (nw_ (nw_ ho2 (pR_ Xa.out)) (pR_ Xc.out)) (pk_ Ja.out)) (below_size (pB_ HB.out)))<|an_ (blk_below (pk_ Ka.out) hb)<|an_ (blk_below (pk_ Ja.out) hb)<|an_ (blk_below (pk_ Ma.out) hb)<|Aside0.mk (below_step (pB_ HB.out) hb);clear Xa Xc Ka Ja Ma HB;obtain ⟨Xa,Xc,Ud,Xd,Je,Ka,Ja,Ma,HB⟩:=n_;(try clear hb);(try clear hb2);(try clear hk);(try clear hi);(try clear ho0);(try clear ho1);(try clear ho2))|((with_reducible refine gate_dst (N:=6) rfl ?_);refine box_event ?hg (N:=6) ?hd (cs:=#[.int .i64 0,.slice none 0 0,.slice none 0 0,.slice none 0 0]) (t:=32) ?hr ?_;(case hd=>rfl);(case hg=>rfl);(case hr=>first|(go_simp;done)|(go_simp;rfl));intro Xb hg w63 hbox hb;have n_:=an_ (Kd.R_below (pR_ Xa.out) hb)<|an_ (Kd.R_below (pR_ Xc.out) hb)<|an_ (Kd.R_below (pR_ Ud.out) hb)<|an_ (Kd.R_below (pR_ Xd.out) hb)<|an_ (Kd.R_below (pR_ Je.out) hb)<|an_ (blk_below (pk_ Ka.out) hb)<|an_ (blk_below (pk_ Ja.out) hb)<|an_ (blk_below (pk_ Ma.out) hb)<|an_ (below_step (pB_ HB.out) hb)<|an_ (hbox)<|an_ ((by rw [hg];exact (below_size (pB_ HB.out)):w.heap.size≤Xb))<|an_ ((by rw [hg];exact (below_size (pB_ HB.out)):w.heap.size≤Xb))<|an_ ((by rw [hg];exact Nat.ne_of_lt (blk_lt (pk_ Ka.out)):Uc≠Xb))<|an_ ((by rw [hg];exact Nat.ne_of_gt (blk_lt (pk_ Ka.out)):Xb≠Uc))<|an_ ((by rw [hg];exact Nat.ne_of_lt (blk_lt (pk_ Ja.out)):Oa≠Xb))<|an_ ((by rw [hg];exact Nat.ne_of_gt (blk_lt (pk_ Ja.out)):Xb≠Oa))<|an_ ((by rw [hg];exact Nat.ne_of_lt (blk_lt (pk_ Ma.out)):Mc≠Xb))<|Aside0.mk ((by rw [hg];exact Nat.ne_of_gt (blk_lt (pk_ Ma.out)):Xb≠Mc));clear Xa Xc Ud Xd Je Ka Ja Ma HB;obtain ⟨Xa,Xc,Ud,Xd,Je,Ka,Ja,Ma,HB,Ua,Xb1,Kr,Mg,Mr,Ke,Or,Of,Ur⟩:=n_;clear hb hbox hg;(try have hnb64:=Mr.out);(try have hnc64:=Mg.out);(try have hnb65:=Or.out);(try have hnc65:=Ke.out);(try have hnb66:=Ur.out);(try have hnc66:=Of.out);have Jc1:w63.cell? ⟨Xb,0,none⟩=some (.int .i64 0):=(blk_cell Ua.out 0).trans rfl;have Kc1:w63.cell? ⟨Xb,1,none⟩=some (.slice none 0 0):=(blk_cell Ua.out 1).trans rfl;have Mc1:w63.cell? ⟨Xb,2,none⟩=some (.slice none 0 0):=(blk_cell Ua.out 2).trans rfl;have Oc1:w63.cell? ⟨Xb,3,none⟩=some (.slice none 0 0):=(blk_cell Ua.out 3).trans rfl;have Uc1:=blk_frozen Ua.out 0;have Xc1:=blk_frozen Ua.out 1;have Jd1:=blk_frozen Ua.out 2;have Kd1:=blk_frozen Ua.out 3;obtain ⟨Jd,Md,eo68⟩:=Kd.R_slice Ud.out;subst eo68;obtain ⟨Ob,Ub,eo69⟩:=Kd.R_slice Xd.out;subst eo69;obtain ⟨Jc,Kc,eo70⟩:=Kd.R_slice Je.out;subst eo70;(try have hnb71:=Kf.out);(try have hnc71:=Mf.out);have Md1:w63.cell? ⟨Oa,0,none⟩=some (.int .i64 a1_0):=(blk_cell Ja.out 0).trans rfl;have Od1:w63.cell? ⟨Oa,1,none⟩=some (.int .i64 a1_1):=(blk_cell Ja.out 1).trans rfl;have Ud1:w63.cell? ⟨Oa,2,none⟩=some (.int .i64 a1_2):=(blk_cell Ja.out 2).trans rfl;have Xd1:w63.cell? ⟨Oa,3,none⟩=some (.int .i64 a1_3):=(blk_cell Ja.out 3).trans rfl;have Je1:=blk_frozen Ja.out 0;have Ke1:=blk_frozen Ja.out 1;have Me1:=blk_frozen Ja.out 2;have Oe1:=blk_frozen Ja.out 3)|((with_reducible refine gate_builtin (b:=.append) (xs:=#[.tmp 41,.tmp 43]) rfl ?_);at_builtin;refine Kd.R_append k38 (w0:=w) w.heap.size rfl (.tmp 41) (.tmp 43) 30 38 (.agg #[(.int .i64 0),(.int .i64 0),(.int .i64 0),(.int .i64 0)]) 32 rfl Try.underlying30 info38 rfl (by decide) (by omega) (.slice Jd Oc.length Md) Oc (⟨a1_0,(⟨a1_1,a1_2,a1_3⟩:S36)⟩:S38) [.int .i64 a1_0,.int .i64 a1_1,.int .i64 a1_2,.int .i64 a1_3] (fun k_=>some k_≠(.slice Jg Jf.length Kg:Value).ownBlock∧some k_≠(.slice Kh Od.length Mh:Value).ownBlock∧some k_≠(.slice Ob Kb.length Ub:Value).ownBlock∧some k_≠(.slice Jc Mb.length Kc:Value).ownBlock∧k_≠Oa) (fun _=>False) rfl Z29 ?aP (fun _ hk=>hk.elim) ?aF ?aO ?aB ?aS ?aL ?_;(case aP=>exact k38_mkM _ _ _ (⟨a1_0,(⟨a1_1,a1_2,a1_3⟩:S36)⟩:S38));(case aB=>exact (pB_ HB.out));(case aF=>exact (fun k_ hk=>⟨Kd.fresh' (Kd.R_lt (pR_ (Kd.R_mono (fr_ (fr_ (fr_ (fr_ (Kd.R_types Xa.out Ua.out (by decide)) 0 (.int .i64 Jb)) 1 (.slice Jd Oc.length Md)) 2 (.slice Ob Kb.length Ub)) 3 (.slice Jc Mb.length Kc)) (fun _ h_=>h_.1)))) k_ hk,Kd.fresh' (Kd.R_lt (pR_ (Kd.R_mono (fr_ (fr_ (fr_ (fr_ (Kd.R_types Xc.out Ua.out (by decide)) 0 (.int .i64 Jb)) 1 (.slice Jd Oc.length Md)) 2 (.slice Ob Kb.length Ub)) 3 (.slice Jc Mb.length Kc)) (fun _ h_=>h_.1)))) k_ hk,Kd.fresh' (Kd.R_lt (pR_ (Kd.R_mono (fr_ (fr_ (fr_ (fr_ (Kd.R_types Xd.out Ua.out (by decide)) 0 (.int .i64 Jb)) 1 (.slice Jd Oc.length Md)) 2 (.slice Ob Kb.length Ub)) 3 (.slice Jc Mb.length Kc)) (fun _ h_=>h_.1)))) k_ hk,Kd.fresh' (Kd.R_lt (pR_ (Kd.R_mono (fr_ (fr_ (fr_ (fr_ (Kd.R_types Je.out Ua.out (by decide)) 0 (.int .i64 Jb)) 1 (.slice Jd Oc.length Md)) 2 (.slice Ob Kb.length Ub)) 3 (.slice Jc Mb.length Kc)) (fun _ h_=>h_.1)))) k_ hk,Kd.freshB (g:=Oa) (o:=.cells #[.int .i64 a1_0,.int .i64 a1_1,.int .i64 a1_2,.int .i64 a1_3] 38 (0,0)) Z8 k_ hk⟩));(case aO=>exact (pR_ (Kd.R_mono (fr_ (fr_ (fr_ (fr_ (Kd.R_types Ud.out Ua.out (by decide)) 0 (.int .i64 Jb)) 1 (.slice Jd Oc.length Md)) 2 (.slice Ob Kb.length Ub)) 3 (.slice Jc Mb.length Kc)) (fun _ hk=>⟨hk.1.1.1.2,⟨hk.1.1.2,⟨hk.1.1.1.1.1,⟨hk.1.1.1.1.2,hk.1.2⟩⟩⟩⟩))));(case aS=>exact (below_size (pB_ HB.out)));(case aL=>have:=LMc58.out;omega);intro Ue1 w73 ho hb hg hat;rw [← Ny295.out] at ho;have n_:=an_ (blk_grown (g:=Uc) (o:=.cells #[.int .i64 a0_0,.slice A0_1 l0_1.length c0_1,.slice A0_2 l0_2.length c0_2,.slice A0_3 l0_3.length c0_3] 32 (0,0)) (by (with_reducible repeat (first|refine blk_drewN ?_ _|refine blk_drew ?_|refine blk_alloc ?_ _));refine blk_far ?_ Mg.out _;(with_reducible repeat (first|refine blk_drewN ?_ _|refine blk_drew ?_|refine blk_alloc ?_ _));refine blk_far ?_ Mg.out _;(with_reducible repeat (first|refine blk_drewN ?_ _|refine blk_drew ?_|refine blk_alloc ?_ _));refine blk_far ?_ Mg.out _;(with_reducible repeat (first|refine blk_drewN ?_ _|refine blk_drew ?_|refine blk_alloc ?_ _));refine blk_far ?_ Mg.out _;(with_reducible repeat (first|refine blk_drewN ?_ _|refine blk_drew ?_|refine blk_alloc ?_ _));exact Ka.out) hg (Kd.R_ne Ud.out Ka.out (by decide)))<|an_ (blk_grown (g:=Oa) (o:=.cells #[.int .i64 a1_0,.int .i64 a1_1,.int .i64 a1_2,.int .i64 a1_3] 38 (0,0)) Z8 hg (Kd.R_away Ud.out (fun _ hk=>hk.2)))<|an_ (blk_grown (g:=Mc) (o:=.cells #[.int .i64 0,.slice none 0 0,.slice none 0 0,.slice none 0 0] 32 (0,0)) (by (with_reducible repeat (first|refine blk_drewN ?_ _|refine blk_drew ?_|refine blk_alloc ?_ _));refine blk_far ?_ Of.out _;(with_reducible repeat (first|refine blk_drewN ?_ _|refine blk_drew ?_|refine blk_alloc ?_ _));refine blk_far ?_ Of.out _;(with_reducible repeat (first|refine blk_drewN ?_ _|refine blk_drew ?_|refine blk_alloc ?_ _));refine blk_far ?_ Of.out _;(with_reducible repeat (first|refine blk_drewN ?_ _|refine blk_drew ?_|refine blk_alloc ?_ _));refine blk_far ?_ Of.out _;(with_reducible repeat (first|refine blk_drewN ?_ _|refine blk_drew ?_|refine blk_alloc ?_ _));exact Ma.out) hg (Kd.R_ne Ud.out Ma.out (by decide)))<|an_ (Kd.R_after (ok:=(fun k_=>some k_≠(.slice Kh Od.length Mh:Value).ownBlock∧some k_≠(.slice Ob Kb.length Ub:Value).ownBlock∧some k_≠(.slice Jc Mb.length Kc:Value).ownBlock∧k_≠Oa)) (pR_ (Kd.R_mono (fr_ (fr_ (fr_ (fr_ (Kd.R_types Xa.out Ua.out (by decide)) 0 (.int .i64 Jb)) 1 (.slice Jd Oc.length Md)) 2 (.slice Ob Kb.length Ub)) 3 (.slice Jc Mb.length Kc)) (fun _ hk=>⟨⟨hk.1.1.1.1.2,⟨hk.1.1.2,⟨hk.1.2,hk.1.1.1.1.1.2⟩⟩⟩,hk.1.1.1.2⟩))) hg hat)<|an_ (Kd.R_after (ok:=(fun k_=>some k_≠(.slice Jg Jf.length Kg:Value).ownBlock∧some k_≠(.slice Ob Kb.length Ub:Value).ownBlock∧some k_≠(.slice Jc Mb.length Kc:Value).ownBlock∧k_≠Oa)) (pR_ (Kd.R_mono (fr_ (fr_ (fr_ (fr_ (Kd.R_types Xc.out Ua.out (by decide)) 0 (.int .i64 Jb)) 1 (.slice Jd Oc.length Md)) 2 (.slice Ob Kb.length Ub)) 3 (.slice Jc Mb.length Kc)) (fun _ hk=>⟨⟨hk.1.1.1.1.1.2,⟨hk.1.1.2,⟨hk.1.2,hk.1.1.1.1.2⟩⟩⟩,hk.1.1.1.2⟩))) hg hat)<|an_ (Kd.R_after (ok:=(fun k_=>some k_≠(.slice Jg Jf.length Kg:Value).ownBlock∧some k_≠(.slice Kh Od.length Mh:Value).ownBlock∧some k_≠(.slice Jc Mb.length Kc:Value).ownBlock∧k_≠Oa)) (pR_ (Kd.R_mono (fr_ (fr_ (fr_ (fr_ (Kd.R_types Xd.out Ua.out (by decide)) 0 (.int .i64 Jb)) 1 (.slice Jd Oc.length Md)) 2 (.slice Ob Kb.length Ub)) 3 (.slice Jc Mb.length Kc)) (fun _ hk=>⟨⟨hk.1.1.1.2,⟨hk.1.1.2,⟨hk.1.1.1.1.2,hk.1.2⟩⟩⟩,hk.1.1.1.1.1⟩))) hg hat)<|an_ (Kd.R_after (ok:=(fun k_=>some k_≠(.slice Jg Jf.length Kg:Value).ownBlock∧some k_≠(.slice Kh Od.length Mh:Value).ownBlock∧some k_≠(.slice Ob Kb.length Ub:Value).ownBlock∧k_≠Oa)) (pR_ (Kd.R_mono (fr_ (fr_ (fr_ (fr_ (Kd.R_types Je.out Ua.out (by decide)) 0 (.int .i64 Jb)) 1 (.slice Jd Oc.length Md)) 2 (.slice Ob Kb.length Ub)) 3 (.slice Jc Mb.length Kc)) (fun _ hk=>⟨⟨hk.1.1.1.2,⟨hk.1.1.2,⟨hk.1.1.1.1.2,hk.1.2⟩⟩⟩,hk.1.1.1.1.1⟩))) hg hat)<|an_ (blk_grown (g:=Xb) (o:=.cells #[.int .i64 Jb,.slice Jd Oc.length Md,.slice Ob Kb.length Ub,.slice Jc Mb.length Kc] 32 (0,0)) (by (with_reducible repeat (first|refine blk_drewN ?_ _|refine blk_drew ?_|refine blk_alloc ?_ _));refine blk_put (cs:=#[.int .i64 Jb,.slice Jd Oc.length Md,.slice Ob Kb.length Ub,.slice none 0 0]) ?_ 3 _ rfl;(with_reducible repeat (first|refine blk_drewN ?_ _|refine blk_drew ?_|refine blk_alloc ?_ _));refine blk_put (cs:=#[.int .i64 Jb,.slice Jd Oc.length Md,.slice none 0 0,.slice none 0 0]) ?_ 2 _ rfl;(with_reducible repeat (first|refine blk_drewN ?_ _|refine blk_drew ?_|refine blk_alloc ?_ _));refine blk_put (cs:=#[.int .i64 Jb,.slice none 0 0,.slice none 0 0,.slice none 0 0]) ?_ 1 _ rfl;(with_reducible repeat (first|refine blk_drewN ?_ _|refine blk_drew ?_|refine blk_alloc ?_ _));refine blk_put (cs:=#[.int .i64 0,.slice none 0 0,.slice none 0 0,.slice none 0 0]) ?_ 0 _ rfl;(with_reducible repeat (first|refine blk_drewN ?_ _|refine blk_drew ?_|refine blk_alloc ?_ _));exact Ua.out) hg (Kd.R_ne Ud.out Ua.out (by decide)))<|an_ (hb)<|Aside0.mk (ho);clear Ka Ja Ma Xa Xc Xd Je Ua HB Ud;obtain ⟨Ka,Ja,Ma,Xa,Xc,Xd,Je,Ua,HB,Ji⟩:=n_;clear ho hb hg hat;obtain ⟨Me,Oe,eo74⟩:=Kd.R_slice Ji.out;subst eo74;have Xe1:w73.cell? ⟨Xb,0,none⟩=some (.int .i64 Jb):=(blk_cell Ua.out 0).trans rfl;have Jf1:w73.cell? ⟨Xb,1,none⟩=some (.slice Jd Oc.length Md):=(blk_cell Ua.out 1).trans rfl;have Kf1:w73.cell? ⟨Xb,2,none⟩=some (.slice Ob Kb.length Ub):=(blk_cell Ua.out 2).trans rfl;have Mf1:w73.cell? ⟨Xb,3,none⟩=some (.slice Jc Mb.length Kc):=(blk_cell Ua.out 3).trans rfl;have Of1:=blk_frozen Ua.out 0;have Uf1:=blk_frozen Ua.out 1;have Xf1:=blk_frozen Ua.out 2;have Jg1:=blk_frozen Ua.out 3;have Kg1:w73.cell? ⟨Mc,0,none⟩=some (.int .i64 0):=(blk_cell Ma.out 0).trans rfl;have Mg1:w73.cell? ⟨Mc,1,none⟩=some (.slice none 0 0):=(blk_cell Ma.out 1).trans rfl;have Og1:w73.cell? ⟨Mc,2,none⟩=some (.slice none 0 0):=(blk_cell Ma.out 2).trans rfl;have Ug1:w73.cell? ⟨Mc,3,none⟩=some (.slice none 0 0):=(blk_cell Ma.out 3).trans rfl;have Xg1:=blk_frozen Ma.out 0;have Jh1:=blk_frozen Ma.out 1;have Kh1:=blk_frozen Ma.out 2;have Mh1:=blk_frozen Ma.out 3))
       refine bodyPost_ret (results_ct rfl _ _ Mc 32 #[.int .i64 Jb,.slice Me y295.length Oe,.slice Ob Kb.length Ub,.slice Jc Mb.length Kc] (0,0) _ rfl (by (with_reducible repeat (first|refine blk_drewN ?_ _|refine blk_drew ?_|refine blk_alloc ?_ _));refine blk_put (cs:=#[.int .i64 Jb,.slice Me y295.length Oe,.slice Ob Kb.length Ub,.slice none 0 0]) ?_ 3 _ rfl;(with_reducible repeat (first|refine blk_drewN ?_ _|refine blk_drew ?_|refine blk_alloc ?_ _));refine blk_put (cs:=#[.int .i64 Jb,.slice Me y295.length Oe,.slice none 0 0,.slice none 0 0]) ?_ 2 _ rfl;(with_reducible repeat (first|refine blk_drewN ?_ _|refine blk_drew ?_|refine blk_alloc ?_ _));refine blk_put (cs:=#[.int .i64 Jb,.slice none 0 0,.slice none 0 0,.slice none 0 0]) ?_ 1 _ rfl;(with_reducible repeat (first|refine blk_drewN ?_ _|refine blk_drew ?_|refine blk_alloc ?_ _));refine blk_put (cs:=#[.int .i64 0,.slice none 0 0,.slice none 0 0,.slice none 0 0]) ?_ 0 _ rfl;(with_reducible repeat (first|refine blk_drewN ?_ _|refine blk_drew ?_|refine blk_alloc ?_ _));refine blk_far ?_ Of.out _;(with_reducible repeat (first|refine blk_drewN ?_ _|refine blk_drew ?_|refine blk_alloc ?_ _));exact Ma.out) Try.underlying32 rfl (by kernel_rfl)) rfl ?_;exact ⟨_,_,_,by first|rfl|(simp [errW_none,errW_some] <;> rfl)|(simp [*,errW_none,errW_some] <;> rfl),by (with_reducible repeat (first|apply Kd.R_alloc|apply Kd.R_drewN|apply Kd.R_drew));exact Kd.R_mono (fr_ (fr_ (fr_ (fr_ (Kd.R_far (p:=⟨Xb,1,none⟩) (Kd.R_types (Kd.R_types Ji.out Ua.out (by decide)) Ma.out (by decide)) (fun _ hk=>hk.1.2) (.slice Me y295.length Oe)) 0 (.int .i64 Jb)) 1 (.slice Me y295.length Oe)) 2 (.slice Ob Kb.length Ub)) 3 (.slice Jc Mb.length Kc)) (fun _ hk=>⟨hk.1.1.2.2.1,hk.1.1.2.2.2.1⟩),by (with_reducible repeat (first|apply Kd.R_alloc|apply Kd.R_drewN|apply Kd.R_drew));exact Kd.R_mono (fr_ (fr_ (fr_ (fr_ (Kd.R_far (p:=⟨Xb,1,none⟩) (Kd.R_types (Kd.R_types Xd.out Ua.out (by decide)) Ma.out (by decide)) (fun _ hk=>hk.1.2) (.slice Me y295.length Oe)) 0 (.int .i64 Jb)) 1 (.slice Me y295.length Oe)) 2 (.slice Ob Kb.length Ub)) 3 (.slice Jc Mb.length Kc)) (fun _ hk=>⟨hk.1.1.2,hk.1.1.1.2.2.1⟩),by (with_reducible repeat (first|apply Kd.R_alloc|apply Kd.R_drewN|apply Kd.R_drew));exact Kd.R_mono (fr_ (fr_ (fr_ (fr_ (Kd.R_far (p:=⟨Xb,1,none⟩) (Kd.R_types (Kd.R_types Je.out Ua.out (by decide)) Ma.out (by decide)) (fun _ hk=>hk.1.2) (.slice Me y295.length Oe)) 0 (.int .i64 Jb)) 1 (.slice Me y295.length Oe)) 2 (.slice Ob Kb.length Ub)) 3 (.slice Jc Mb.length Kc)) (fun _ hk=>⟨hk.1.1.2,hk.1.1.1.2.2.1⟩),by repeat (first|(with_reducible first|exact HB.out|apply below_alloc|apply pw_below_drewN|apply below_drew1|refine below_set ?_ Ug.out|refine below_set ?_ Xg.out|refine below_set ?_ Jh.out|refine below_set ?_ Kr.out)|exact HB.out)⟩
      ·rw [if_neg c58] at H
       exact absurd H (by simp)

/-! ### laws_eqVec: function 37 -/
def laws_eqVec.f (a0_0 : Int) (a0_1 : Int) (a0_2 : Int) (a1_0 : Int) (a1_1 : Int) (a1_2 : Int) : Option (Bool) := if a0_0 = a1_0 then (if a0_1 = a1_1 then (if a0_2 = a1_2 then (some true) else (some false)) else (some false)) else (some false)
set_option maxHeartbeats 8000000 in
set_option maxRecDepth 100000 in
theorem laws_eqVec.calls (a0_0 : Int) (a0_1 : Int) (a0_2 : Int) (a1_0 : Int) (a1_1 : Int) (a1_2 : Int) (r : Bool) (w : World) (h : laws_eqVec.f a0_0 a0_1 a0_2 a1_0 a1_1 a1_2 = some r) :
  Calls Try.prog 37 #[.agg #[.int .i64 a0_0,.int .i64 a0_1,.int .i64 a0_2],.agg #[.int .i64 a1_0,.int .i64 a1_1,.int .i64 a1_2]] w fun e w'=>e=.returned (.bool r)∧Below w.heap.size w w':=by
 have hu36 := Try.underlying36
 have HB := Aside0.mk (Below.refl w.heap.size w)
 have H : (if a0_0 = a1_0 then (if a0_1 = a1_1 then (if a0_2 = a1_2 then (some true) else (some false)) else (some false)) else (some false)) = some r := h
 clear h
 have HU3 := Aside0.mk H
 clear H
 go_enter Try.func37, Try.ntmps37
 go_upto_if 9 with (first|((with_reducible refine gate_dst (N:=2) rfl ?_);refine box_event ?hg (N:=2) ?hd (cs:=#[.int .i64 a0_0,.int .i64 a0_1,.int .i64 a0_2]) (t:=36) ?hr ?_;(case hd=>rfl);(case hg=>rfl);(case hr=>first|(go_simp;done)|(go_simp;rfl));intro gb298 hg w4 hbox hb;have n_:=an_ (below_step (pB_ HB.out) hb)<|an_ (hbox)<|an_ ((by rw [hg];exact (below_size (pB_ HB.out)):w.heap.size≤gb298))<|Aside0.mk ((by rw [hg];exact (below_size (pB_ HB.out)):w.heap.size≤gb298));clear HB;obtain ⟨HB,BK298,GW298,GE298⟩:=n_;clear hb hbox hg)|((with_reducible refine gate_dst (N:=3) rfl ?_);refine box_event ?hg (N:=3) ?hd (cs:=#[.int .i64 a1_0,.int .i64 a1_1,.int .i64 a1_2]) (t:=36) ?hr ?_;(case hd=>rfl);(case hg=>rfl);(case hr=>first|(go_simp;done)|(go_simp;rfl));intro gb299 hg w5 hbox hb;have n_:=an_ (blk_below (pk_ BK298.out) hb)<|an_ (below_step (pB_ HB.out) hb)<|an_ (hbox)<|an_ ((by rw [hg];exact (below_size (pB_ HB.out)):w.heap.size≤gb299))<|an_ ((by rw [hg];exact (below_size (pB_ HB.out)):w.heap.size≤gb299))<|an_ ((by rw [hg];exact Nat.ne_of_lt (blk_lt (pk_ BK298.out)):gb298≠gb299))<|Aside0.mk ((by rw [hg];exact Nat.ne_of_gt (blk_lt (pk_ BK298.out)):gb299≠gb298));clear BK298 HB;obtain ⟨BK298,HB,BK299,GW299,GE299,NB298_299,NB299_298⟩:=n_;clear hb hbox hg;(try have hnb6:=NB298_299.out);(try have hnc6:=NB299_298.out);have hcz7_0:w5.cell? ⟨gb298,0,none⟩=some (.int .i64 a0_0):=(blk_cell BK298.out 0).trans rfl;have hcz7_1:w5.cell? ⟨gb298,1,none⟩=some (.int .i64 a0_1):=(blk_cell BK298.out 1).trans rfl;have hcz7_2:w5.cell? ⟨gb298,2,none⟩=some (.int .i64 a0_2):=(blk_cell BK298.out 2).trans rfl;have hfz7_0:=blk_frozen BK298.out 0;have hfz7_1:=blk_frozen BK298.out 1;have hfz7_2:=blk_frozen BK298.out 2;have hcz8_0:w5.cell? ⟨gb299,0,none⟩=some (.int .i64 a1_0):=(blk_cell BK299.out 0).trans rfl;have hcz8_1:w5.cell? ⟨gb299,1,none⟩=some (.int .i64 a1_1):=(blk_cell BK299.out 1).trans rfl;have hcz8_2:w5.cell? ⟨gb299,2,none⟩=some (.int .i64 a1_2):=(blk_cell BK299.out 2).trans rfl;have hfz8_0:=blk_frozen BK299.out 0;have hfz8_1:=blk_frozen BK299.out 1;have hfz8_2:=blk_frozen BK299.out 2))
 have H := HU3.out
 clear HU3
 by_cases c9 : a0_0 = a1_0
 ·rw [if_pos c9] at H
  have c9b0:(a0_0 == a1_0)=true:=beq_iff_eq.mpr c9;have c9b1:(a0_0 != a1_0)=false:=bne_eq_false_iff_eq.mpr c9;clear c9;(first|rw [c9b0]|(simp only [i64_w,i32_w];rw [c9b0])|(have cz_:=c9b0;simp only [bne,gt_iff_lt,Int.natCast_pos] at cz_;first|rw [cz_]|(simp only [i64_w,i32_w];rw [cz_]))|skip)
  by_cases c10 : a0_1 = a1_1
  ·rw [if_pos c10] at H
   have c10b0 : (a0_1 == a1_1) = true := beq_iff_eq.mpr c10; have c10b1 : (a0_1 != a1_1) = false := bne_eq_false_iff_eq.mpr c10; clear c10
   by_cases c11 : a0_2 = a1_2
   ·rw [if_pos c11] at H
    have c11b0:(a0_2 == a1_2)=true:=beq_iff_eq.mpr c11;have c11b1:(a0_2 != a1_2)=false:=bne_eq_false_iff_eq.mpr c11;clear c11;obtain rfl:=Option.some.inj H;(try have hnb12:=NB298_299.out);(try have hnc12:=NB299_298.out);obtain ⟨hcz13_0,hcz13_1,hcz13_2,hfz13_0,hfz13_1,hfz13_2⟩:=cells3 BK298.out;obtain ⟨hcz14_0,hcz14_1,hcz14_2,hfz14_0,hfz14_1,hfz14_2⟩:=cells3 BK299.out
    go_wp2
    go_ret;exact ⟨by first|rfl|(simp [errW_none,errW_some] <;> rfl)|(simp [*,errW_none,errW_some] <;> rfl),by repeat (first|(with_reducible first|exact HB.out|apply below_alloc|apply pw_below_drewN|apply below_drew1|refine below_set ?_ GE298.out|refine below_set ?_ GE299.out)|exact HB.out)⟩
   ·rw [if_neg c11] at H
    have c11b0:(a0_2 == a1_2)=false:=beq_eq_false_iff_ne.mpr c11;have c11b1:(a0_2 != a1_2)=true:=bne_iff_ne.mpr c11;obtain rfl:=Option.some.inj H;(try have hnb15:=NB298_299.out);(try have hnc15:=NB299_298.out);obtain ⟨hcz16_0,hcz16_1,hcz16_2,hfz16_0,hfz16_1,hfz16_2⟩:=cells3 BK298.out;obtain ⟨hcz17_0,hcz17_1,hcz17_2,hfz17_0,hfz17_1,hfz17_2⟩:=cells3 BK299.out
    go_wp2
    go_ret;exact ⟨by first|rfl|(simp [errW_none,errW_some] <;> rfl)|(simp [*,errW_none,errW_some] <;> rfl),by repeat (first|(with_reducible first|exact HB.out|apply below_alloc|apply pw_below_drewN|apply below_drew1|refine below_set ?_ GE298.out|refine below_set ?_ GE299.out)|exact HB.out)⟩
  ·rw [if_neg c10] at H
   have c10b0:(a0_1 == a1_1)=false:=beq_eq_false_iff_ne.mpr c10;have c10b1:(a0_1 != a1_1)=true:=bne_iff_ne.mpr c10;obtain rfl:=Option.some.inj H;(try have hnb18:=NB298_299.out);(try have hnc18:=NB299_298.out);obtain ⟨hcz19_0,hcz19_1,hcz19_2,hfz19_0,hfz19_1,hfz19_2⟩:=cells3 BK298.out;obtain ⟨hcz20_0,hcz20_1,hcz20_2,hfz20_0,hfz20_1,hfz20_2⟩:=cells3 BK299.out
   go_wp2
   go_ret;exact ⟨by first|rfl|(simp [errW_none,errW_some] <;> rfl)|(simp [*,errW_none,errW_some] <;> rfl),by repeat (first|(with_reducible first|exact HB.out|apply below_alloc|apply pw_below_drewN|apply below_drew1|refine below_set ?_ GE298.out|refine below_set ?_ GE299.out)|exact HB.out)⟩
 ·rw [if_neg c9] at H
  have c9b0:(a0_0 == a1_0)=false:=beq_eq_false_iff_ne.mpr c9;have c9b1:(a0_0 != a1_0)=true:=bne_iff_ne.mpr c9;(first|rw [c9b0]|(simp only [i64_w,i32_w];rw [c9b0])|(have cz_:=c9b0;simp only [bne,gt_iff_lt,Int.natCast_pos] at cz_;first|rw [cz_]|(simp only [i64_w,i32_w];rw [cz_]))|skip);obtain rfl:=Option.some.inj H
  go_wp2
  go_ret;exact ⟨by first|rfl|(simp [errW_none,errW_some] <;> rfl)|(simp [*,errW_none,errW_some] <;> rfl),by repeat (first|(with_reducible first|exact HB.out|apply below_alloc|apply pw_below_drewN|apply below_drew1|refine below_set ?_ GE298.out|refine below_set ?_ GE299.out)|exact HB.out)⟩

/-! ### laws_eqJob: function 35 -/
def laws_eqJob.f (a0_0 : Int) (a0_1 : Int) (a0_2 : Int) (a0_3 : Int) (a1_0 : Int) (a1_1 : Int) (a1_2 : Int) (a1_3 : Int) : Option (Bool) := if a0_0 = a1_0 then ((laws_eqVec.f a0_1 a0_2 a0_3 a1_1 a1_2 a1_3).bind fun t302 => (if t302 = true then (some true) else (some false))) else (some false)
set_option maxHeartbeats 8000000 in
set_option maxRecDepth 100000 in
theorem laws_eqJob.calls (a0_0 : Int) (a0_1 : Int) (a0_2 : Int) (a0_3 : Int) (a1_0 : Int) (a1_1 : Int) (a1_2 : Int) (a1_3 : Int) (r : Bool) (w : World) (h : laws_eqJob.f a0_0 a0_1 a0_2 a0_3 a1_0 a1_1 a1_2 a1_3 = some r) :
  Calls Try.prog 35 #[.agg #[.int .i64 a0_0,.int .i64 a0_1,.int .i64 a0_2,.int .i64 a0_3],.agg #[.int .i64 a1_0,.int .i64 a1_1,.int .i64 a1_2,.int .i64 a1_3]] w fun e w'=>e=.returned (.bool r)∧Below w.heap.size w w':=by
 have hu38 := Try.underlying38
 have hu36 := Try.underlying36
 have HB := Aside0.mk (Below.refl w.heap.size w)
 have H : (if a0_0 = a1_0 then ((laws_eqVec.f a0_1 a0_2 a0_3 a1_1 a1_2 a1_3).bind fun t302 => (if t302 = true then (some true) else (some false))) else (some false)) = some r := h
 clear h
 have HU3 := Aside0.mk H
 clear H
 go_enter Try.func35, Try.ntmps35
 go_upto_if 9 with (first|((with_reducible refine gate_dst (N:=2) rfl ?_);refine box_event ?hg (N:=2) ?hd (cs:=#[.int .i64 a0_0,.int .i64 a0_1,.int .i64 a0_2,.int .i64 a0_3]) (t:=38) ?hr ?_;(case hd=>rfl);(case hg=>rfl);(case hr=>first|(go_simp;done)|(go_simp;rfl));intro gb300 hg w4 hbox hb;have n_:=an_ (below_step (pB_ HB.out) hb)<|an_ (hbox)<|an_ ((by rw [hg];exact (below_size (pB_ HB.out)):w.heap.size≤gb300))<|Aside0.mk ((by rw [hg];exact (below_size (pB_ HB.out)):w.heap.size≤gb300));clear HB;obtain ⟨HB,BK300,GW300,GE300⟩:=n_;clear hb hbox hg)|((with_reducible refine gate_dst (N:=3) rfl ?_);refine box_event ?hg (N:=3) ?hd (cs:=#[.int .i64 a1_0,.int .i64 a1_1,.int .i64 a1_2,.int .i64 a1_3]) (t:=38) ?hr ?_;(case hd=>rfl);(case hg=>rfl);(case hr=>first|(go_simp;done)|(go_simp;rfl));intro gb301 hg w5 hbox hb;have n_:=an_ (blk_below (pk_ BK300.out) hb)<|an_ (below_step (pB_ HB.out) hb)<|an_ (hbox)<|an_ ((by rw [hg];exact (below_size (pB_ HB.out)):w.heap.size≤gb301))<|an_ ((by rw [hg];exact (below_size (pB_ HB.out)):w.heap.size≤gb301))<|an_ ((by rw [hg];exact Nat.ne_of_lt (blk_lt (pk_ BK300.out)):gb300≠gb301))<|Aside0.mk ((by rw [hg];exact Nat.ne_of_gt (blk_lt (pk_ BK300.out)):gb301≠gb300));clear BK300 HB;obtain ⟨BK300,HB,BK301,GW301,GE301,NB300_301,NB301_300⟩:=n_;clear hb hbox hg;(try have hnb6:=NB300_301.out);(try have hnc6:=NB301_300.out);have hcz7_0:w5.cell? ⟨gb300,0,none⟩=some (.int .i64 a0_0):=(blk_cell BK300.out 0).trans rfl;have hcz7_1:w5.cell? ⟨gb300,1,none⟩=some (.int .i64 a0_1):=(blk_cell BK300.out 1).trans rfl;have hcz7_2:w5.cell? ⟨gb300,2,none⟩=some (.int .i64 a0_2):=(blk_cell BK300.out 2).trans rfl;have hcz7_3:w5.cell? ⟨gb300,3,none⟩=some (.int .i64 a0_3):=(blk_cell BK300.out 3).trans rfl;have hfz7_0:=blk_frozen BK300.out 0;have hfz7_1:=blk_frozen BK300.out 1;have hfz7_2:=blk_frozen BK300.out 2;have hfz7_3:=blk_frozen BK300.out 3;have hcz8_0:w5.cell? ⟨gb301,0,none⟩=some (.int .i64 a1_0):=(blk_cell BK301.out 0).trans rfl;have hcz8_1:w5.cell? ⟨gb301,1,none⟩=some (.int .i64 a1_1):=(blk_cell BK301.out 1).trans rfl;have hcz8_2:w5.cell? ⟨gb301,2,none⟩=some (.int .i64 a1_2):=(blk_cell BK301.out 2).trans rfl;have hcz8_3:w5.cell? ⟨gb301,3,none⟩=some (.int .i64 a1_3):=(blk_cell BK301.out 3).trans rfl;have hfz8_0:=blk_frozen BK301.out 0;have hfz8_1:=blk_frozen BK301.out 1;have hfz8_2:=blk_frozen BK301.out 2;have hfz8_3:=blk_frozen BK301.out 3))
 have H := HU3.out
 clear HU3
 by_cases c9 : a0_0 = a1_0
 ·rw [if_pos c9] at H
  have c9b0:(a0_0 == a1_0)=true:=beq_iff_eq.mpr c9;have c9b1:(a0_0 != a1_0)=false:=bne_eq_false_iff_eq.mpr c9;clear c9;(first|rw [c9b0]|(simp only [i64_w,i32_w];rw [c9b0])|(have cz_:=c9b0;simp only [bne,gt_iff_lt,Int.natCast_pos] at cz_;first|rw [cz_]|(simp only [i64_w,i32_w];rw [cz_]))|skip);obtain ⟨t302,A100,H⟩:=Option.bind_eq_some_iff.mp H;(try dsimp only at H);have A10:=Aside0.mk A100;clear A100;have HU11:=Aside0.mk H;clear H;(try have hnb12:=NB300_301.out);(try have hnc12:=NB301_300.out);obtain ⟨hcz13_0,hcz13_1,hcz13_2,hcz13_3,hfz13_0,hfz13_1,hfz13_2,hfz13_3⟩:=cells4 BK300.out;obtain ⟨hcz14_0,hcz14_1,hcz14_2,hcz14_3,hfz14_0,hfz14_1,hfz14_2,hfz14_3⟩:=cells4 BK301.out
  go_upto_if 15 with (first|((with_reducible refine gate_callee (f:=37) rfl ?_);refine goesL_ (some 14) rfl rfl Try.func37 (by kernel_rfl) rfl #[.agg #[.int .i64 a0_1,.int .i64 a0_2,.int .i64 a0_3],.agg #[.int .i64 a1_1,.int .i64 a1_2,.int .i64 a1_3]] rfl Z22 ?_;(with_reducible refine (laws_eqVec.calls a0_1 a0_2 a0_3 a1_1 a1_2 a1_3 t302 _ A10.out).mono ?_);rintro e w15 ⟨rfl,hb⟩;refine ⟨_,rfl,?_⟩;have n_:=an_ (blk_below (pk_ BK300.out) hb)<|an_ (blk_below (pk_ BK301.out) hb)<|Aside0.mk (below_step (pB_ HB.out) hb);clear BK300 BK301 HB;obtain ⟨BK300,BK301,HB⟩:=n_;(try clear hb);(try clear hb2);(try clear hk);(try clear hi)))
  have H := HU11.out; clear HU11
  by_cases c16 : t302 = true
  ·subst c16
   rw [if_pos rfl] at H; obtain rfl := Option.some.inj H
   go_wp2
   go_ret;exact ⟨by first|rfl|(simp [errW_none,errW_some] <;> rfl)|(simp [*,errW_none,errW_some] <;> rfl),by repeat (first|(with_reducible first|exact HB.out|apply below_alloc|apply pw_below_drewN|apply below_drew1|refine below_set ?_ GE300.out|refine below_set ?_ GE301.out)|exact HB.out)⟩
  ·replace c16 := Bool.eq_false_iff.mpr c16
   subst c16; rw [if_neg (show ¬ (false = true) by decide)] at H; obtain rfl := Option.some.inj H
   go_wp2
   go_ret;exact ⟨by first|rfl|(simp [errW_none,errW_some] <;> rfl)|(simp [*,errW_none,errW_some] <;> rfl),by repeat (first|(with_reducible first|exact HB.out|apply below_alloc|apply pw_below_drewN|apply below_drew1|refine below_set ?_ GE300.out|refine below_set ?_ GE301.out)|exact HB.out)⟩
 ·rw [if_neg c9] at H
  have c9b0:(a0_0 == a1_0)=false:=beq_eq_false_iff_ne.mpr c9;have c9b1:(a0_0 != a1_0)=true:=bne_iff_ne.mpr c9;(first|rw [c9b0]|(simp only [i64_w,i32_w];rw [c9b0])|(have cz_:=c9b0;simp only [bne,gt_iff_lt,Int.natCast_pos] at cz_;first|rw [cz_]|(simp only [i64_w,i32_w];rw [cz_]))|skip);obtain rfl:=Option.some.inj H
  go_wp2
  go_ret;exact ⟨by first|rfl|(simp [errW_none,errW_some] <;> rfl)|(simp [*,errW_none,errW_some] <;> rfl),by repeat (first|(with_reducible first|exact HB.out|apply below_alloc|apply pw_below_drewN|apply below_drew1|refine below_set ?_ GE300.out|refine below_set ?_ GE301.out)|exact HB.out)⟩

end Go.Proofs.Ytcdangcjbijfkab.PFnExactLinePut
