-- by a program of this session's, over the kit's words
import Derived.Test.YtcdangcjbijfkabPZFnExactLinePut
import Derived.Test.YtcdangcjbijfkabPFnExactLinePutx0
import Derived.Test.YtcdangcjbijfkabPFnExactLinePutx1
namespace Go.Proofs.Ytcdangcjbijfkab.PFnExactLinePut
open Go.RowKit Go.Proofs.YtcdangcjbijfkabW.PrintWords Go.Proofs.YtcdangcjbijfkabW.PrintLast Go.Proofs.YtcdangcjbijfkabW.PrintMore Go.Proofs.YtcdangcjbijfkabV Go.Proofs.Ytcdangcjbijfkab.ZFnExactLinePut
attribute [local go_sem] max2_int min2_int max_two min_two max_three min_three max_four min_four   -- for this text's walks alone
set_option linter.unusedVariables false
set_option linter.unusedSimpArgs false

/-! ### spec_LineOk: function 13 -/
mutual
def spec_LineOk.j0 : Nat → Bool → Int → List (S38) → List (S38) → List (S38) → Option (Bool)
 | 0, _, _, _, _, _ => none
 | k + 1,x39,x119000,x119001,x119002,x119003=>if x39=true then (some false) else ((spec_l21All.f x119000 x119001 x119002 x119003).bind fun t119=>(if (t119.length:Int) > x119000 then (some false) else (spec_LineOk.l0 k t119 0 x119000 x119001 x119002 x119003)))
def spec_LineOk.l0 : Nat → List (S38) → Int → Int → List (S38) → List (S38) → List (S38) → Option (Bool)
 | 0, _, _, _, _, _, _ => none
 | k + 1,x3,x4,x119000,x119001,x119002,x119003=>if x4 < (x3.length:Int) then (if 0≤x4 then (if ((rd_T38 x3 x4).f0) < 0 then (spec_LineOk.j2 k x3 x4 true x119000 x119001 x119002 x119003) else (spec_LineOk.j2 k x3 x4 (decide (((rd_T38 x3 x4).f0) > 1000000000000)) x119000 x119001 x119002 x119003)) else (none)) else (some true)
def spec_LineOk.j2 : Nat → List (S38) → Int → Bool → Int → List (S38) → List (S38) → List (S38) → Option (Bool)
 | 0, _, _, _, _, _, _, _ => none
 | k + 1, x3, x4, x66, x119000, x119001, x119002, x119003 => if x66 = true then (some false) else (spec_LineOk.l1 k x3 x4 0 x119000 x119001 x119002 x119003)
def spec_LineOk.l1 : Nat → List (S38) → Int → Int → Int → List (S38) → List (S38) → List (S38) → Option (Bool)
 | 0, _, _, _, _, _, _, _ => none
 | k + 1,x3,x4,x5,x119000,x119001,x119002,x119003=>if x5 < x4 then (if 0≤x5 then (if x5 < (x3.length:Int) then (if 0≤x4 then (if x4 < (x3.length:Int) then (if ((rd_T38 x3 x5).f0)=((rd_T38 x3 x4).f0) then (some false) else (spec_LineOk.l1 k x3 x4 (wrap64 (x5 + 1)) x119000 x119001 x119002 x119003)) else (none)) else (none)) else (none)) else (none)) else (if 0≤x4 then (if x4 < (x3.length:Int) then (if x4 < (x119003.length:Int) then (spec_LineOk.j4 k x3 x4 2 x119000 x119001 x119002 x119003 ((rd_T38 x3 x4).f1.f0) ((rd_T38 x3 x4).f1.f1) ((rd_T38 x3 x4).f1.f2)) else (if x4 < (wrap64 ((x119003.length:Int) + (x119002.length:Int))) then (spec_LineOk.j4 k x3 x4 1 x119000 x119001 x119002 x119003 ((rd_T38 x3 x4).f1.f0) ((rd_T38 x3 x4).f1.f1) ((rd_T38 x3 x4).f1.f2)) else (spec_LineOk.j4 k x3 x4 0 x119000 x119001 x119002 x119003 ((rd_T38 x3 x4).f1.f0) ((rd_T38 x3 x4).f1.f1) ((rd_T38 x3 x4).f1.f2)))) else (none)) else (none))
def spec_LineOk.j4 : Nat → List (S38) → Int → Int → Int → List (S38) → List (S38) → List (S38) → Int → Int → Int → Option (Bool)
 | 0, _, _, _, _, _, _, _, _, _, _ => none
 | k + 1,x3,x4,x7,x119000,x119001,x119002,x119003,x128000,x128001,x128002=>if x7 > 0 then (if x128000=0 then (if x7=0 then (if x128000 < 1 then (spec_LineOk.j5 k x3 x4 x7 true x119000 x119001 x119002 x119003 x128000 x128001 x128002) else (spec_LineOk.j5 k x3 x4 x7 (decide (x128000 > 1000)) x119000 x119001 x119002 x119003 x128000 x128001 x128002)) else (spec_LineOk.j5 k x3 x4 x7 false x119000 x119001 x119002 x119003 x128000 x128001 x128002)) else (spec_LineOk.j5 k x3 x4 x7 true x119000 x119001 x119002 x119003 x128000 x128001 x128002)) else (if x7=0 then (if x128000 < 1 then (spec_LineOk.j5 k x3 x4 x7 true x119000 x119001 x119002 x119003 x128000 x128001 x128002) else (spec_LineOk.j5 k x3 x4 x7 (decide (x128000 > 1000)) x119000 x119001 x119002 x119003 x128000 x128001 x128002)) else (spec_LineOk.j5 k x3 x4 x7 false x119000 x119001 x119002 x119003 x128000 x128001 x128002))
def spec_LineOk.j5 : Nat → List (S38) → Int → Int → Bool → Int → List (S38) → List (S38) → List (S38) → Int → Int → Int → Option (Bool)
 | 0, _, _, _, _, _, _, _, _, _, _, _ => none
 | k + 1,x3,x4,x7,x122,x119000,x119001,x119002,x119003,x128000,x128001,x128002=>if x122=true then (some false) else (if x7=2 then (if x128001=0 then (if x7 < 2 then (if x128001 < 1 then (some false) else (if x128001 > 1000 then (some false) else (if x128002 < 1 then (some false) else (if x128002 > 1000 then (some false) else (spec_LineOk.l0 k x3 (wrap64 (x4 + 1)) x119000 x119001 x119002 x119003))))) else (if x128002 < 1 then (some false) else (if x128002 > 1000 then (some false) else (spec_LineOk.l0 k x3 (wrap64 (x4 + 1)) x119000 x119001 x119002 x119003)))) else (some false)) else (if x7 < 2 then (if x128001 < 1 then (some false) else (if x128001 > 1000 then (some false) else (if x128002 < 1 then (some false) else (if x128002 > 1000 then (some false) else (spec_LineOk.l0 k x3 (wrap64 (x4 + 1)) x119000 x119001 x119002 x119003))))) else (if x128002 < 1 then (some false) else (if x128002 > 1000 then (some false) else (spec_LineOk.l0 k x3 (wrap64 (x4 + 1)) x119000 x119001 x119002 x119003)))))
end
def spec_LineOk.f (k : Nat) (a0_0 : Int) (l0_1 : List (S38)) (l0_2 : List (S38)) (l0_3 : List (S38)) : Option (Bool) := if a0_0 < 1 then (spec_LineOk.j0 k true a0_0 l0_1 l0_2 l0_3) else (if a0_0 > 16 then (spec_LineOk.j0 k true a0_0 l0_1 l0_2 l0_3) else (if (l0_1.length : Int) > a0_0 then (spec_LineOk.j0 k true a0_0 l0_1 l0_2 l0_3) else (if (l0_2.length : Int) > a0_0 then (spec_LineOk.j0 k true a0_0 l0_1 l0_2 l0_3) else (spec_LineOk.j0 k (decide ((l0_3.length : Int) > a0_0)) a0_0 l0_1 l0_2 l0_3))))
set_option maxHeartbeats 8000000 in
set_option maxRecDepth 100000 in
theorem spec_LineOk.calls (k : Nat) (a0_0 : Int) (A0_1 : Option Addr) (c0_1 : Nat) (l0_1 : List (S38)) (A0_2 : Option Addr) (c0_2 : Nat) (l0_2 : List (S38)) (A0_3 : Option Addr) (c0_3 : Nat) (l0_3 : List (S38)) (r : Bool) (w : World) (hr0_1 : Kd.C k38 w A0_1 l0_1.length l0_1) (hc0_1 : l0_1.length ≤ c0_1) (hr0_2 : Kd.C k38 w A0_2 l0_2.length l0_2) (hc0_2 : l0_2.length ≤ c0_2) (hr0_3 : Kd.C k38 w A0_3 l0_3.length l0_3) (hc0_3 : l0_3.length ≤ c0_3) (h : spec_LineOk.f k a0_0 l0_1 l0_2 l0_3 = some r) :
  Calls Try.prog 13 #[.agg #[.int .i64 a0_0,.slice A0_1 l0_1.length c0_1,.slice A0_2 l0_2.length c0_2,.slice A0_3 l0_3.length c0_3]] w fun e w'=>e=.returned (.bool r)∧Below w.heap.size w w':=by
 have hu32 := Try.underlying32
 have hu36 := Try.underlying36
 have HR0_1 := Aside0.mk hr0_1
 have HC0_1 := Aside0.mk hc0_1
 clear hr0_1 hc0_1
 have HR0_2 := Aside0.mk hr0_2
 have HC0_2 := Aside0.mk hc0_2
 clear hr0_2 hc0_2
 have HR0_3 := Aside0.mk hr0_3
 have HC0_3 := Aside0.mk hc0_3
 clear hr0_3 hc0_3
 have HB := Aside0.mk (Below.refl w.heap.size w)
 have H:(if a0_0 < 1 then (spec_LineOk.j0 k true a0_0 l0_1 l0_2 l0_3) else (if a0_0 > 16 then (spec_LineOk.j0 k true a0_0 l0_1 l0_2 l0_3) else (if (l0_1.length:Int) > a0_0 then (spec_LineOk.j0 k true a0_0 l0_1 l0_2 l0_3) else (if (l0_2.length:Int) > a0_0 then (spec_LineOk.j0 k true a0_0 l0_1 l0_2 l0_3) else (spec_LineOk.j0 k (decide ((l0_3.length:Int) > a0_0)) a0_0 l0_1 l0_2 l0_3)))))=some r:=h
 clear h
 have HC2 := Aside0.mk H
 clear H
 go_enter Try.func13, Try.ntmps13
 go_upto_region 1 with (first|((with_reducible refine gate_dst (N:=1) rfl ?_);(try (refine gate_guard (by rfl) ?_;dsimp only));refine box_event ?hg (N:=1) ?hd (cs:=#[.int .i64 a0_0,.slice A0_1 l0_1.length c0_1,.slice A0_2 l0_2.length c0_2,.slice A0_3 l0_3.length c0_3]) (t:=32) ?hr ?_;(case hd=>rfl);(case hg=>rfl);(case hr=>first|(go_simp;done)|(go_simp;rfl));intro Oa hg w3 hbox hb;have n_:=an_ (below_step (pB_ HB.out) hb)<|an_ (hbox)<|an_ ((by rw [hg];exact (below_size (pB_ HB.out)):w.heap.size≤Oa))<|Aside0.mk ((by rw [hg];exact (below_size (pB_ HB.out)):w.heap.size≤Oa));clear HB;obtain ⟨HB,Ka,Op,Mb⟩:=n_;clear hb hbox hg))
 repeat (go_quiet (first|((with_reducible refine gate_dst (N:=1) rfl ?_);(try (refine gate_guard (by rfl) ?_;dsimp only));refine box_event ?hg (N:=1) ?hd (cs:=#[.int .i64 a0_0,.slice A0_1 l0_1.length c0_1,.slice A0_2 l0_2.length c0_2,.slice A0_3 l0_3.length c0_3]) (t:=32) ?hr ?_;(case hd=>rfl);(case hg=>rfl);(case hr=>first|(go_simp;done)|(go_simp;rfl));intro Oa hg w3 hbox hb;have n_:=an_ (below_step (pB_ HB.out) hb)<|an_ (hbox)<|an_ ((by rw [hg];exact (below_size (pB_ HB.out)):w.heap.size≤Oa))<|Aside0.mk ((by rw [hg];exact (below_size (pB_ HB.out)):w.heap.size≤Oa));clear HB;obtain ⟨HB,Ka,Op,Mb⟩:=n_;clear hb hbox hg));go_upto_region 1 with (first|((with_reducible refine gate_dst (N:=1) rfl ?_);(try (refine gate_guard (by rfl) ?_;dsimp only));refine box_event ?hg (N:=1) ?hd (cs:=#[.int .i64 a0_0,.slice A0_1 l0_1.length c0_1,.slice A0_2 l0_2.length c0_2,.slice A0_3 l0_3.length c0_3]) (t:=32) ?hr ?_;(case hd=>rfl);(case hg=>rfl);(case hr=>first|(go_simp;done)|(go_simp;rfl));intro Oa hg w3 hbox hb;have n_:=an_ (below_step (pB_ HB.out) hb)<|an_ (hbox)<|an_ ((by rw [hg];exact (below_size (pB_ HB.out)):w.heap.size≤Oa))<|Aside0.mk ((by rw [hg];exact (below_size (pB_ HB.out)):w.heap.size≤Oa));clear HB;obtain ⟨HB,Ka,Op,Mb⟩:=n_;clear hb hbox hg)))
 (try simp only [Act.put, List.setIfInBounds_toArray, List.set_cons_zero, List.set_cons_succ])
 go_cut [39] (fun v39 wc=>∃ (kq:Nat) (Um:Bool),v39=.bool Um∧Aside0 (spec_LineOk.j0 kq Um a0_0 l0_1 l0_2 l0_3=some r)∧Aside0 (kq≤k)∧Aside0 (wc.heap[Oa]?=some (.cells #[.int .i64 a0_0,(.slice A0_1 l0_1.length c0_1),(.slice A0_2 l0_2.length c0_2),(.slice A0_3 l0_3.length c0_3)] 32 (0,0)))∧Aside0 (Below w.heap.size w wc))
 case first =>
  have H := HC2.out; clear HC2
  by_cases c4 : a0_0 < 1
  ·rw [if_pos c4] at H
   have c4b0:decide (a0_0 < 1)=true:=decide_eq_true c4;clear c4;(first|rw [c4b0]|(simp only [i64_w,i32_w];rw [c4b0])|(have cz_:=c4b0;simp only [bne,gt_iff_lt,Int.natCast_pos] at cz_;first|rw [cz_]|(simp only [i64_w,i32_w];rw [cz_]))|skip);have H':=Aside0.mk H;clear H;obtain ⟨Md,Od,Ud,Xd,Je,Ke,Me,Oe⟩:=cells4 Ka.out
   go_wp2
   repeat (go_quiet (fail); try go_wp2)
   go_meet
   case rel => exact ⟨_, (true), Z28, H', ⟨by first | omega | exact Nat.le_refl _⟩, ⟨pk_ Ka.out⟩, ⟨pB_ HB.out⟩⟩
  ·rw [if_neg c4] at H
   have c4b0:decide (a0_0 < 1)=false:=decide_eq_false c4;clear c4;(first|rw [c4b0]|(simp only [i64_w,i32_w];rw [c4b0])|(have cz_:=c4b0;simp only [bne,gt_iff_lt,Int.natCast_pos] at cz_;first|rw [cz_]|(simp only [i64_w,i32_w];rw [cz_]))|skip)
   by_cases c6 : a0_0 > 16
   ·rw [if_pos c6] at H
    have c6b0 : decide (16 < a0_0) = true := decide_eq_true c6; clear c6; have H' := Aside0.mk H; clear H; obtain ⟨Ue, Xe, Jf, Kf, Mf, Of, Uf, Xf⟩ := cells4 Ka.out
    go_wp2
    repeat (go_quiet (fail); try go_wp2)
    go_meet
    case rel => exact ⟨_, (true), Z28, H', ⟨by first | omega | exact Nat.le_refl _⟩, ⟨pk_ Ka.out⟩, ⟨pB_ HB.out⟩⟩
   ·rw [if_neg c6] at H
    have c6b0 : decide (16 < a0_0) = false := decide_eq_false c6; clear c6
    by_cases c8 : (l0_1.length : Int) > a0_0
    ·rw [if_pos c8] at H
     have c8b0 : decide (a0_0 < (l0_1.length : Int)) = true := decide_eq_true c8; clear c8; have H' := Aside0.mk H; clear H; obtain ⟨Jg, Kg, Mg, Og, Ug, Xg, Jh, Kh⟩ := cells4 Ka.out
     go_wp2
     repeat (go_quiet (fail); try go_wp2)
     go_meet
     case rel => exact ⟨_, (true), Z28, H', ⟨by first | omega | exact Nat.le_refl _⟩, ⟨pk_ Ka.out⟩, ⟨pB_ HB.out⟩⟩
    ·rw [if_neg c8] at H
     have c8b0 : decide (a0_0 < (l0_1.length : Int)) = false := decide_eq_false c8; clear c8
     by_cases c10 : (l0_2.length : Int) > a0_0
     ·rw [if_pos c10] at H
      have c10b0 : decide (a0_0 < (l0_2.length : Int)) = true := decide_eq_true c10; clear c10; have H' := Aside0.mk H; clear H; obtain ⟨Mh, Oh, Uh, Xh, Ji, Ki, Mi, Oi⟩ := cells4 Ka.out
      go_wp2
      repeat (go_quiet (fail); try go_wp2)
      go_meet
      case rel => exact ⟨_, (true), Z28, H', ⟨by first | omega | exact Nat.le_refl _⟩, ⟨pk_ Ka.out⟩, ⟨pB_ HB.out⟩⟩
     ·rw [if_neg c10] at H
      have c10b0 : decide (a0_0 < (l0_2.length : Int)) = false := decide_eq_false c10; clear c10; have H' := Aside0.mk H; clear H; obtain ⟨Ui, Xi, Jj, Kj, Mj, Oj, Uj, Xj⟩ := cells4 Ka.out
      go_wp2
      repeat (go_quiet (fail); try go_wp2)
      go_meet
      case rel => exact ⟨_, (decide ((l0_3.length : Int) > a0_0)), Z28, H', ⟨by first | omega | exact Nat.le_refl _⟩, ⟨pk_ Ka.out⟩, ⟨pB_ HB.out⟩⟩
 case rest =>
  clear HC2
  try clear c1
  try clear p2
  try clear c4
  try clear c4b0
  try clear c6
  try clear c6b0
  try clear c8
  try clear c8b0
  try clear c10
  try clear c10b0
  try clear Mh Oh Uh Xh Ji Ki Mi Oi
  try clear Ui Xi Jj Kj Mj Oj Uj Xj
  try clear Md Od Ud Xd Je Ke Me Oe
  try clear Ue Xe Jf Kf Mf Of Uf Xf
  try clear Jg Kg Mg Og Ug Xg Jh Kh
  obtain ⟨kq, Um, rfl, HA, HJ1, Ka, HB⟩ := hcut
  cases kq with
  | zero => exact absurd HA.out (by simp [spec_LineOk.j0])
  | succ kj1 =>
   have H := HA.out; clear HA; simp only [spec_LineOk.j0] at H
   by_cases c13 : Um = true
   ·subst c13
    rw [if_pos rfl] at H; obtain rfl := Option.some.inj H
    go_wp2
    repeat (go_quiet (fail); try go_wp2)
    go_ret;exact ⟨by first|rfl|(simp [errW_none,errW_some] <;> rfl)|(simp [*,errW_none,errW_some] <;> rfl),by repeat (first|(with_reducible first|exact HB.out|apply below_alloc|apply pw_below_drewN|apply below_drew1|refine below_set ?_ Mb.out)|exact HB.out)⟩
   ·replace c13 := Bool.eq_false_iff.mpr c13
    subst c13;rw [if_neg (show ¬ (false=true) by decide)] at H;obtain ⟨Ja,A140,H⟩:=Option.bind_eq_some_iff.mp H;(try dsimp only at H);have A14:=Aside0.mk A140;clear A140;have HU15:=Aside0.mk H;clear H;obtain ⟨Kk,Mk,Ok,Uk,Xk,Jm,Km,Mm⟩:=cells4 Ka.out
    go_upto_if 46 with (first|(go_at_call 15;(with_reducible refine (spec_l21All.calls a0_0 _ _ l0_1 _ _ l0_2 _ _ l0_3 Ja _ ?side1 ?side2 ?side3 ?side4 ?side5 ?side6 A14.out).mono ?_);(case side1=>exact pC_ (Kd.C_below HR0_1.out HB.out));(case side2=>exact HC0_1.out);(case side3=>exact pC_ (Kd.C_below HR0_2.out HB.out));(case side4=>exact HC0_2.out);(case side5=>exact pC_ (Kd.C_below HR0_3.out HB.out));(case side6=>exact HC0_3.out);rintro e w17 ⟨Up,rfl,ho0,hb⟩;have n_:=an_ (Kd.R_lower ho0 (below_size (pB_ HB.out)))<|an_ (blk_below (pk_ Ka.out) hb)<|Aside0.mk (below_step (pB_ HB.out) hb);clear Ka HB;obtain ⟨Jk,Ka,HB⟩:=n_;(try clear hb);(try clear hb2);(try clear hk);(try clear hi);(try clear ho0);obtain ⟨Om,Ub,eo18⟩:=Kd.R_slice Jk.out;subst eo18;have Xb:w17.cell? ⟨Oa,0,none⟩=some (.int .i64 a0_0):=(blk_cell Ka.out 0).trans rfl;have Jc:w17.cell? ⟨Oa,1,none⟩=some (.slice A0_1 l0_1.length c0_1):=(blk_cell Ka.out 1).trans rfl;have Kc:w17.cell? ⟨Oa,2,none⟩=some (.slice A0_2 l0_2.length c0_2):=(blk_cell Ka.out 2).trans rfl;have Mc:w17.cell? ⟨Oa,3,none⟩=some (.slice A0_3 l0_3.length c0_3):=(blk_cell Ka.out 3).trans rfl;have Oc:=blk_frozen Ka.out 0;have Uc:=blk_frozen Ka.out 1;have Xc:=blk_frozen Ka.out 2;have Jd:=blk_frozen Ka.out 3))
    repeat (go_quiet (first|(go_at_call 15;(with_reducible refine (spec_l21All.calls a0_0 _ _ l0_1 _ _ l0_2 _ _ l0_3 Ja _ ?side1 ?side2 ?side3 ?side4 ?side5 ?side6 A14.out).mono ?_);(case side1=>exact pC_ (Kd.C_below HR0_1.out HB.out));(case side2=>exact HC0_1.out);(case side3=>exact pC_ (Kd.C_below HR0_2.out HB.out));(case side4=>exact HC0_2.out);(case side5=>exact pC_ (Kd.C_below HR0_3.out HB.out));(case side6=>exact HC0_3.out);rintro e w17 ⟨Up,rfl,ho0,hb⟩;have n_:=an_ (Kd.R_lower ho0 (below_size (pB_ HB.out)))<|an_ (blk_below (pk_ Ka.out) hb)<|Aside0.mk (below_step (pB_ HB.out) hb);clear Ka HB;obtain ⟨Jk,Ka,HB⟩:=n_;(try clear hb);(try clear hb2);(try clear hk);(try clear hi);(try clear ho0);obtain ⟨Om,Ub,eo18⟩:=Kd.R_slice Jk.out;subst eo18;have Xb:w17.cell? ⟨Oa,0,none⟩=some (.int .i64 a0_0):=(blk_cell Ka.out 0).trans rfl;have Jc:w17.cell? ⟨Oa,1,none⟩=some (.slice A0_1 l0_1.length c0_1):=(blk_cell Ka.out 1).trans rfl;have Kc:w17.cell? ⟨Oa,2,none⟩=some (.slice A0_2 l0_2.length c0_2):=(blk_cell Ka.out 2).trans rfl;have Mc:w17.cell? ⟨Oa,3,none⟩=some (.slice A0_3 l0_3.length c0_3):=(blk_cell Ka.out 3).trans rfl;have Oc:=blk_frozen Ka.out 0;have Uc:=blk_frozen Ka.out 1;have Xc:=blk_frozen Ka.out 2;have Jd:=blk_frozen Ka.out 3));go_upto_if 46 with (first|(go_at_call 15;(with_reducible refine (spec_l21All.calls a0_0 _ _ l0_1 _ _ l0_2 _ _ l0_3 Ja _ ?side1 ?side2 ?side3 ?side4 ?side5 ?side6 A14.out).mono ?_);(case side1=>exact pC_ (Kd.C_below HR0_1.out HB.out));(case side2=>exact HC0_1.out);(case side3=>exact pC_ (Kd.C_below HR0_2.out HB.out));(case side4=>exact HC0_2.out);(case side5=>exact pC_ (Kd.C_below HR0_3.out HB.out));(case side6=>exact HC0_3.out);rintro e w17 ⟨Up,rfl,ho0,hb⟩;have n_:=an_ (Kd.R_lower ho0 (below_size (pB_ HB.out)))<|an_ (blk_below (pk_ Ka.out) hb)<|Aside0.mk (below_step (pB_ HB.out) hb);clear Ka HB;obtain ⟨Jk,Ka,HB⟩:=n_;(try clear hb);(try clear hb2);(try clear hk);(try clear hi);(try clear ho0);obtain ⟨Om,Ub,eo18⟩:=Kd.R_slice Jk.out;subst eo18;have Xb:w17.cell? ⟨Oa,0,none⟩=some (.int .i64 a0_0):=(blk_cell Ka.out 0).trans rfl;have Jc:w17.cell? ⟨Oa,1,none⟩=some (.slice A0_1 l0_1.length c0_1):=(blk_cell Ka.out 1).trans rfl;have Kc:w17.cell? ⟨Oa,2,none⟩=some (.slice A0_2 l0_2.length c0_2):=(blk_cell Ka.out 2).trans rfl;have Mc:w17.cell? ⟨Oa,3,none⟩=some (.slice A0_3 l0_3.length c0_3):=(blk_cell Ka.out 3).trans rfl;have Oc:=blk_frozen Ka.out 0;have Uc:=blk_frozen Ka.out 1;have Xc:=blk_frozen Ka.out 2;have Jd:=blk_frozen Ka.out 3)))
    have H := HU15.out; clear HU15
    by_cases c20 : (Ja.length : Int) > a0_0
    ·rw [if_pos c20] at H
     have c20b0:decide (a0_0 < (Ja.length:Int))=true:=decide_eq_true c20;clear c20;(first|rw [c20b0]|(simp only [i64_w,i32_w];rw [c20b0])|(have cz_:=c20b0;simp only [bne,gt_iff_lt,Int.natCast_pos] at cz_;first|rw [cz_]|(simp only [i64_w,i32_w];rw [cz_]))|skip);obtain rfl:=Option.some.inj H
     go_wp2
     repeat (go_quiet (fail); try go_wp2)
     go_ret;exact ⟨by first|rfl|(simp [errW_none,errW_some] <;> rfl)|(simp [*,errW_none,errW_some] <;> rfl),by repeat (first|(with_reducible first|exact HB.out|apply below_alloc|apply pw_below_drewN|apply below_drew1|refine below_set ?_ Mb.out)|exact HB.out)⟩
    ·rw [if_neg c20] at H
     have c20b0:decide (a0_0 < (Ja.length:Int))=false:=decide_eq_false c20;clear c20;(first|rw [c20b0]|(simp only [i64_w,i32_w];rw [c20b0])|(have cz_:=c20b0;simp only [bne,gt_iff_lt,Int.natCast_pos] at cz_;first|rw [cz_]|(simp only [i64_w,i32_w];rw [cz_]))|skip);have H':=Aside0.mk H;clear H
     go_wp2
     repeat (go_quiet (fail); try go_wp2)
     go_loopg [4] kj1 (fun kq v4 w'=>∃ (x4_2:Int),v4=.int .i64 x4_2∧Aside0 (spec_LineOk.l0 kq Ja x4_2 a0_0 l0_1 l0_2 l0_3=some r)∧Aside0 (kq≤kj1)∧Aside0 (Kd.R k38 38 w' w.heap.size (fun _=>True) (.slice Om Ja.length Ub) Ja)∧Aside0 (w'.heap[Oa]?=some (.cells #[.int .i64 a0_0,(.slice A0_1 l0_1.length c0_1),(.slice A0_2 l0_2.length c0_2),(.slice A0_3 l0_3.length c0_3)] 32 (0,0)))∧Aside0 (Below w.heap.size w w'))
     case atStart => exact ⟨(0), Z28, H', ⟨Nat.le_refl _⟩, ⟨pR_ Jk.out⟩, ⟨pk_ Ka.out⟩, ⟨pB_ HB.out⟩⟩
     case round =>
      clear H'
      try clear c1
      try clear c2
      try clear p2
      try clear c4
      try clear c4b0
      try clear c6
      try clear c6b0
      try clear c8
      try clear c8b0
      try clear c10
      try clear c10b0
      try clear c13
      try clear c20
      try clear c20b0
      try clear Mh Oh Uh Xh Ji Ki Mi Oi
      try clear Ui Xi Jj Kj Mj Oj Uj Xj
      try clear Kk Mk Ok Uk Xk Jm Km Mm
      try clear Xb Jc Kc Mc Oc Uc Xc Jd
      try clear Md Od Ud Xd Je Ke Me Oe
      try clear Ue Xe Jf Kf Mf Of Uf Xf
      try clear Jg Kg Mg Og Ug Xg Jh Kh
      try clear p2
      obtain ⟨x4_2, rfl, HA, HK2, Xa, Ka, HB⟩ := hrel
      cases gk with
      | zero => exact absurd HA.out (by simp [spec_LineOk.l0])
      | succ k2 =>
       have H := HA.out; clear HA; simp only [spec_LineOk.l0] at H
       by_cases c21 : x4_2 < (Ja.length : Int)
       ·rw [if_pos c21] at H
        have c21b0 : decide (x4_2 < (Ja.length : Int)) = true := decide_eq_true c21; clear c21; have HC22 := Aside0.mk H; clear H
        go_upto_region 9 with (fail)
        repeat (go_quiet (fail); go_upto_region 9 with (fail))
        go_cut [66] (fun v66 wc=>∃ (kq:Nat) (Xm:Bool),v66=.bool Xm∧Aside0 (spec_LineOk.j2 kq Ja x4_2 Xm a0_0 l0_1 l0_2 l0_3=some r)∧Aside0 (kq≤k2)∧Aside0 (Kd.R k38 38 wc w.heap.size (fun _=>True) (.slice Om Ja.length Ub) Ja)∧Aside0 (wc.heap[Oa]?=some (.cells #[.int .i64 a0_0,(.slice A0_1 l0_1.length c0_1),(.slice A0_2 l0_2.length c0_2),(.slice A0_3 l0_3.length c0_3)] 32 (0,0)))∧Aside0 (Below w.heap.size w wc))
        case first =>
         have H := HC22.out; clear HC22
         by_cases c23 : 0 ≤ x4_2
         ·rw [if_pos c23] at H
          have c23b0:decide (0≤x4_2)=true:=decide_eq_true c23;clear c23;(first|rw [c23b0]|(simp only [i64_w,i32_w];rw [c23b0])|(have cz_:=c23b0;simp only [bne,gt_iff_lt,Int.natCast_pos] at cz_;first|rw [cz_]|(simp only [i64_w,i32_w];rw [cz_]))|skip)
          by_cases c24 : ((rd_T38 Ja x4_2).f0) < 0
          ·rw [if_pos c24] at H
           have c24b0:decide (((rd_T38 Ja x4_2).f0) < 0)=true:=decide_eq_true c24;clear c24;have H':=Aside0.mk H;clear H;have p122:0≤(x4_2:Int):=of_decide_eq_true Z27;have q122:x4_2 < (Ja.length:Int):=of_decide_eq_true Z27;obtain ⟨ad122,e122,hx122_0,hx122_1,hx122_2,hx122_3⟩:=at_T38 (Kd.R_reads' Xa.out).2.2 x4_2 p122 q122;cases e122;replace p122:=eq_true p122;replace q122:=eq_true q122
           go_wp2
           repeat (go_quiet (fail); try go_wp2)
           go_meet
           case rel => exact ⟨_, (true), Z28, H', ⟨by have := HJ1.out; have := HK2.out; first | omega | exact Nat.le_refl _⟩, ⟨pR_ Xa.out⟩, ⟨pk_ Ka.out⟩, ⟨pB_ HB.out⟩⟩
          ·rw [if_neg c24] at H
           have c24b0:decide (((rd_T38 Ja x4_2).f0) < 0)=false:=decide_eq_false c24;clear c24;have H':=Aside0.mk H;clear H;have p122:0≤(x4_2:Int):=of_decide_eq_true Z27;have q122:x4_2 < (Ja.length:Int):=of_decide_eq_true Z27;obtain ⟨ad122,e122,hx122_0,hx122_1,hx122_2,hx122_3⟩:=at_T38 (Kd.R_reads' Xa.out).2.2 x4_2 p122 q122;cases e122;replace p122:=eq_true p122;replace q122:=eq_true q122;have p123:0≤(x4_2:Int):=of_decide_eq_true Z27;have q123:x4_2 < (Ja.length:Int):=of_decide_eq_true Z27;obtain ⟨ad123,e123,hx123_0,hx123_1,hx123_2,hx123_3⟩:=at_T38 (Kd.R_reads' Xa.out).2.2 x4_2 p123 q123;obtain rfl:ad122=ad123:=(by injection e123);replace p123:=eq_true p123;replace q123:=eq_true q123
           go_wp2
           repeat (go_quiet (fail); try go_wp2)
           go_meet
           case rel=>exact ⟨_,(decide (((rd_T38 Ja x4_2).f0) > 1000000000000)),Z28,H',⟨by have:=HJ1.out;have:=HK2.out;first|omega|exact Nat.le_refl _⟩,⟨pR_ Xa.out⟩,⟨pk_ Ka.out⟩,⟨pB_ HB.out⟩⟩
         ·rw [if_neg c23] at H
          exact absurd H (by simp)
        case rest =>
         clear HC22
         try clear c1
         try clear p1
         try clear q1
         try clear hx1
         try clear c2
         try clear p2
         try clear c4
         try clear c4b0
         try clear c6
         try clear c6b0
         try clear c8
         try clear c8b0
         try clear c10
         try clear c10b0
         try clear p12
         try clear q12
         try clear hx12
         try clear c13
         try clear c20
         try clear c20b0
         try clear c21
         try clear c21b0
         try clear c23
         try clear c23b0
         try clear c24
         try clear c24b0
         try clear Mh Oh Uh Xh Ji Ki Mi Oi
         try clear Ui Xi Jj Kj Mj Oj Uj Xj
         try clear Kk Mk Ok Uk Xk Jm Km Mm
         try clear Xb Jc Kc Mc Oc Uc Xc Jd
         try clear Md Od Ud Xd Je Ke Me Oe
         try clear Ue Xe Jf Kf Mf Of Uf Xf
         try clear Jg Kg Mg Og Ug Xg Jh Kh
         try clear hx122_0 hx122_1 hx122_2 hx122_3
         try clear hx123_0 hx123_1 hx123_2 hx123_3
         try clear p122
         try clear p123
         try clear p2
         try clear q122
         try clear q123
         obtain ⟨kq, Xm, rfl, HA, HJ21, Xa, Ka, HB⟩ := hcut
         cases kq with
         | zero => exact absurd HA.out (by simp [spec_LineOk.j2])
         | succ kj21 =>
          have H := HA.out; clear HA; simp only [spec_LineOk.j2] at H
          by_cases c25 : Xm = true
          ·subst c25
           rw [if_pos rfl] at H; obtain rfl := Option.some.inj H
           go_wp2
           repeat (go_quiet (fail); try go_wp2)
           go_ret;exact ⟨by first|rfl|(simp [errW_none,errW_some] <;> rfl)|(simp [*,errW_none,errW_some] <;> rfl),by repeat (first|(with_reducible first|exact HB.out|apply below_alloc|apply pw_below_drewN|apply below_drew1|refine below_set ?_ Mb.out)|exact HB.out)⟩
          ·replace c25 := Bool.eq_false_iff.mpr c25
           subst c25; rw [if_neg (show ¬ (false = true) by decide)] at H; have H' := Aside0.mk H; clear H
           go_wp2
           repeat (go_quiet (fail); try go_wp2)
           go_loopg [5] kj21 (fun kq v5 w'=>∃ (x5_4:Int),v5=.int .i64 x5_4∧Aside0 (spec_LineOk.l1 kq Ja x4_2 x5_4 a0_0 l0_1 l0_2 l0_3=some r)∧Aside0 (kq≤kj21)∧Aside0 (Kd.R k38 38 w' w.heap.size (fun _=>True) (.slice Om Ja.length Ub) Ja)∧Aside0 (w'.heap[Oa]?=some (.cells #[.int .i64 a0_0,(.slice A0_1 l0_1.length c0_1),(.slice A0_2 l0_2.length c0_2),(.slice A0_3 l0_3.length c0_3)] 32 (0,0)))∧Aside0 (Below w.heap.size w w'))
           case atStart => exact ⟨(0), Z28, H', ⟨Nat.le_refl _⟩, ⟨pR_ Xa.out⟩, ⟨pk_ Ka.out⟩, ⟨pB_ HB.out⟩⟩
           case round =>
            clear H'
            try clear c1
            try clear p1
            try clear q1
            try clear hx1
            try clear c2
            try clear p2
            try clear c4
            try clear c4b0
            try clear c6
            try clear c6b0
            try clear c8
            try clear c8b0
            try clear c10
            try clear c10b0
            try clear p12
            try clear q12
            try clear hx12
            try clear c13
            try clear c20
            try clear c20b0
            try clear c21
            try clear c21b0
            try clear c23
            try clear c23b0
            try clear c24
            try clear c24b0
            try clear c25
            try clear Mh Oh Uh Xh Ji Ki Mi Oi
            try clear Ui Xi Jj Kj Mj Oj Uj Xj
            try clear Kk Mk Ok Uk Xk Jm Km Mm
            try clear Xb Jc Kc Mc Oc Uc Xc Jd
            try clear Md Od Ud Xd Je Ke Me Oe
            try clear Ue Xe Jf Kf Mf Of Uf Xf
            try clear Jg Kg Mg Og Ug Xg Jh Kh
            try clear hx122_0 hx122_1 hx122_2 hx122_3
            try clear hx123_0 hx123_1 hx123_2 hx123_3
            try clear p1
            try clear p12
            try clear p122
            try clear p123
            try clear p2
            try clear q1
            try clear q12
            try clear q122
            try clear q123
            obtain ⟨x5_4, rfl, HA, HK4, Xa, Ka, HB⟩ := hrel
            cases gk with
            | zero => exact absurd HA.out (by simp [spec_LineOk.l1])
            | succ k4 =>
             have H := HA.out; clear HA; simp only [spec_LineOk.l1] at H
             by_cases c26 : x5_4 < x4_2
             ·rw [if_pos c26] at H
              have c26b0 : decide (x5_4 < x4_2) = true := decide_eq_true c26; clear c26
              by_cases c27 : 0 ≤ x5_4
              ·rw [if_pos c27] at H
               have c27b0 : decide (0 ≤ x5_4) = true := decide_eq_true c27; clear c27
               by_cases c28 : x5_4 < (Ja.length : Int)
               ·rw [if_pos c28] at H
                have c28b0 : decide (x5_4 < (Ja.length : Int)) = true := decide_eq_true c28; clear c28
                by_cases c29 : 0 ≤ x4_2
                ·rw [if_pos c29] at H
                 have c29b0 : decide (0 ≤ x4_2) = true := decide_eq_true c29; clear c29
                 by_cases c30 : x4_2 < (Ja.length : Int)
                 ·rw [if_pos c30] at H
                  have c30b0:decide (x4_2 < (Ja.length:Int))=true:=decide_eq_true c30;clear c30;have HU31:=Aside0.mk H;clear H;have p124:0≤(x5_4:Int):=of_decide_eq_true Z27;have q124:x5_4 < (Ja.length:Int):=of_decide_eq_true Z27;obtain ⟨ad124,e124,hx124_0,hx124_1,hx124_2,hx124_3⟩:=at_T38 (Kd.R_reads' Xa.out).2.2 x5_4 p124 q124;cases e124;replace p124:=eq_true p124;replace q124:=eq_true q124;have p125:0≤(x4_2:Int):=of_decide_eq_true Z27;have q125:x4_2 < (Ja.length:Int):=of_decide_eq_true Z27;obtain ⟨ad125,e125,hx125_0,hx125_1,hx125_2,hx125_3⟩:=at_T38 (Kd.R_reads' Xa.out).2.2 x4_2 p125 q125;obtain rfl:ad124=ad125:=(by injection e125);replace p125:=eq_true p125;replace q125:=eq_true q125
                  go_upto_if 82 with (fail)
                  repeat (go_quiet (fail); go_upto_if 82 with (fail))
                  have H := HU31.out; clear HU31
                  by_cases c32 : ((rd_T38 Ja x5_4).f0) = ((rd_T38 Ja x4_2).f0)
                  ·rw [if_pos c32] at H
                   have c32b0:(((rd_T38 Ja x5_4).f0) == ((rd_T38 Ja x4_2).f0))=true:=beq_iff_eq.mpr c32;have c32b1:(((rd_T38 Ja x5_4).f0) != ((rd_T38 Ja x4_2).f0))=false:=bne_eq_false_iff_eq.mpr c32;clear c32;(first|rw [c32b0]|(simp only [i64_w,i32_w];rw [c32b0])|(have cz_:=c32b0;simp only [bne,gt_iff_lt,Int.natCast_pos] at cz_;first|rw [cz_]|(simp only [i64_w,i32_w];rw [cz_]))|skip);obtain rfl:=Option.some.inj H
                   go_wp2
                   repeat (go_quiet (fail); try go_wp2)
                   go_ret;exact ⟨by first|rfl|(simp [errW_none,errW_some] <;> rfl)|(simp [*,errW_none,errW_some] <;> rfl),by repeat (first|(with_reducible first|exact HB.out|apply below_alloc|apply pw_below_drewN|apply below_drew1|refine below_set ?_ Mb.out)|exact HB.out)⟩
                  ·rw [if_neg c32] at H
                   have c32b0:(((rd_T38 Ja x5_4).f0) == ((rd_T38 Ja x4_2).f0))=false:=beq_eq_false_iff_ne.mpr c32;have c32b1:(((rd_T38 Ja x5_4).f0) != ((rd_T38 Ja x4_2).f0))=true:=bne_iff_ne.mpr c32;(first|rw [c32b0]|(simp only [i64_w,i32_w];rw [c32b0])|(have cz_:=c32b0;simp only [bne,gt_iff_lt,Int.natCast_pos] at cz_;first|rw [cz_]|(simp only [i64_w,i32_w];rw [cz_]))|skip);have H':=Aside0.mk H;clear H
                   go_wp2
                   repeat (go_quiet (fail); try go_wp2)
                   go_roundg k4
                   case measure => have := HJ1.out; have := HK2.out; have := HJ21.out; have := HK4.out; omega
                   case rel => exact ⟨(wrap64 (x5_4 + 1)), Z28, H', ⟨by have := HJ1.out; have := HK2.out; have := HJ21.out; have := HK4.out; omega⟩, ⟨pR_ Xa.out⟩, ⟨pk_ Ka.out⟩, ⟨pB_ HB.out⟩⟩
                 ·rw [if_neg c30] at H
                  exact absurd H (by simp)
                ·rw [if_neg c29] at H
                 exact absurd H (by simp)
               ·rw [if_neg c28] at H
                exact absurd H (by simp)
              ·rw [if_neg c27] at H
               exact absurd H (by simp)
             ·rw [if_neg c26] at H
              have c26b0 : decide (x5_4 < x4_2) = false := decide_eq_false c26; clear c26
              by_cases c33 : 0 ≤ x4_2
              ·rw [if_pos c33] at H
               have c33b0 : decide (0 ≤ x4_2) = true := decide_eq_true c33; clear c33
               by_cases c34 : x4_2 < (Ja.length : Int)
               ·rw [if_pos c34] at H
                have c34b0:decide (x4_2 < (Ja.length:Int))=true:=decide_eq_true c34;clear c34;have HC35:=Aside0.mk H;clear H;have p126:0≤(x4_2:Int):=of_decide_eq_true Z27;have q126:x4_2 < (Ja.length:Int):=of_decide_eq_true Z27;obtain ⟨ad126,e126,hx126_0,hx126_1,hx126_2,hx126_3⟩:=at_T38 (Kd.R_reads' Xa.out).2.2 x4_2 p126 q126;cases e126;replace p126:=eq_true p126;replace q126:=eq_true q126
                go_upto_if 92 with (first|((with_reducible refine gate_dst (N:=6) rfl ?_);(try (refine gate_guard (by rfl) ?_;dsimp only));refine box_event ?hg (N:=6) ?hd (cs:=#[.int .i64 0,.int .i64 0,.int .i64 0]) (t:=36) ?hr ?_;(case hd=>rfl);(case hg=>rfl);(case hr=>first|(go_simp;done)|(go_simp;rfl));intro Kb hg w36 hbox hb;have n_:=an_ (Kd.R_below (pR_ Xa.out) hb)<|an_ (blk_below (pk_ Ka.out) hb)<|an_ (below_step (pB_ HB.out) hb)<|an_ (hbox)<|an_ ((by rw [hg];exact (below_size (pB_ HB.out)):w.heap.size≤Kb))<|an_ ((by rw [hg];exact (below_size (pB_ HB.out)):w.heap.size≤Kb))<|an_ ((by rw [hg];exact Nat.ne_of_lt (blk_lt (pk_ Ka.out)):Oa≠Kb))<|Aside0.mk ((by rw [hg];exact Nat.ne_of_gt (blk_lt (pk_ Ka.out)):Kb≠Oa));clear Xa Ka HB;obtain ⟨Xa,Ka,HB,Ma,Xp,Ob,Ua,Jb⟩:=n_;clear hb hbox hg;(try have hnb37:=Jb.out);(try have hnc37:=Ua.out);have Jn:w36.cell? ⟨Kb,0,none⟩=some (.int .i64 0):=(blk_cell Ma.out 0).trans rfl;have Kn:w36.cell? ⟨Kb,1,none⟩=some (.int .i64 0):=(blk_cell Ma.out 1).trans rfl;have Mn:w36.cell? ⟨Kb,2,none⟩=some (.int .i64 0):=(blk_cell Ma.out 2).trans rfl;have On:=blk_frozen Ma.out 0;have Un:=blk_frozen Ma.out 1;have Xn:=blk_frozen Ma.out 2;have Jo:w36.cell? ⟨Oa,0,none⟩=some (.int .i64 a0_0):=(blk_cell Ka.out 0).trans rfl;have Ko:w36.cell? ⟨Oa,1,none⟩=some (.slice A0_1 l0_1.length c0_1):=(blk_cell Ka.out 1).trans rfl;have Mo:w36.cell? ⟨Oa,2,none⟩=some (.slice A0_2 l0_2.length c0_2):=(blk_cell Ka.out 2).trans rfl;have Oo:w36.cell? ⟨Oa,3,none⟩=some (.slice A0_3 l0_3.length c0_3):=(blk_cell Ka.out 3).trans rfl;have Uo:=blk_frozen Ka.out 0;have Xo:=blk_frozen Ka.out 1;have Jp:=blk_frozen Ka.out 2;have Kp:=blk_frozen Ka.out 3))
                repeat (go_quiet (first|((with_reducible refine gate_dst (N:=6) rfl ?_);(try (refine gate_guard (by rfl) ?_;dsimp only));refine box_event ?hg (N:=6) ?hd (cs:=#[.int .i64 0,.int .i64 0,.int .i64 0]) (t:=36) ?hr ?_;(case hd=>rfl);(case hg=>rfl);(case hr=>first|(go_simp;done)|(go_simp;rfl));intro Kb hg w36 hbox hb;have n_:=an_ (Kd.R_below (pR_ Xa.out) hb)<|an_ (blk_below (pk_ Ka.out) hb)<|an_ (below_step (pB_ HB.out) hb)<|an_ (hbox)<|an_ ((by rw [hg];exact (below_size (pB_ HB.out)):w.heap.size≤Kb))<|an_ ((by rw [hg];exact (below_size (pB_ HB.out)):w.heap.size≤Kb))<|an_ ((by rw [hg];exact Nat.ne_of_lt (blk_lt (pk_ Ka.out)):Oa≠Kb))<|Aside0.mk ((by rw [hg];exact Nat.ne_of_gt (blk_lt (pk_ Ka.out)):Kb≠Oa));clear Xa Ka HB;obtain ⟨Xa,Ka,HB,Ma,Xp,Ob,Ua,Jb⟩:=n_;clear hb hbox hg;(try have hnb37:=Jb.out);(try have hnc37:=Ua.out);have Jn:w36.cell? ⟨Kb,0,none⟩=some (.int .i64 0):=(blk_cell Ma.out 0).trans rfl;have Kn:w36.cell? ⟨Kb,1,none⟩=some (.int .i64 0):=(blk_cell Ma.out 1).trans rfl;have Mn:w36.cell? ⟨Kb,2,none⟩=some (.int .i64 0):=(blk_cell Ma.out 2).trans rfl;have On:=blk_frozen Ma.out 0;have Un:=blk_frozen Ma.out 1;have Xn:=blk_frozen Ma.out 2;have Jo:w36.cell? ⟨Oa,0,none⟩=some (.int .i64 a0_0):=(blk_cell Ka.out 0).trans rfl;have Ko:w36.cell? ⟨Oa,1,none⟩=some (.slice A0_1 l0_1.length c0_1):=(blk_cell Ka.out 1).trans rfl;have Mo:w36.cell? ⟨Oa,2,none⟩=some (.slice A0_2 l0_2.length c0_2):=(blk_cell Ka.out 2).trans rfl;have Oo:w36.cell? ⟨Oa,3,none⟩=some (.slice A0_3 l0_3.length c0_3):=(blk_cell Ka.out 3).trans rfl;have Uo:=blk_frozen Ka.out 0;have Xo:=blk_frozen Ka.out 1;have Jp:=blk_frozen Ka.out 2;have Kp:=blk_frozen Ka.out 3));go_upto_if 92 with (first|((with_reducible refine gate_dst (N:=6) rfl ?_);(try (refine gate_guard (by rfl) ?_;dsimp only));refine box_event ?hg (N:=6) ?hd (cs:=#[.int .i64 0,.int .i64 0,.int .i64 0]) (t:=36) ?hr ?_;(case hd=>rfl);(case hg=>rfl);(case hr=>first|(go_simp;done)|(go_simp;rfl));intro Kb hg w36 hbox hb;have n_:=an_ (Kd.R_below (pR_ Xa.out) hb)<|an_ (blk_below (pk_ Ka.out) hb)<|an_ (below_step (pB_ HB.out) hb)<|an_ (hbox)<|an_ ((by rw [hg];exact (below_size (pB_ HB.out)):w.heap.size≤Kb))<|an_ ((by rw [hg];exact (below_size (pB_ HB.out)):w.heap.size≤Kb))<|an_ ((by rw [hg];exact Nat.ne_of_lt (blk_lt (pk_ Ka.out)):Oa≠Kb))<|Aside0.mk ((by rw [hg];exact Nat.ne_of_gt (blk_lt (pk_ Ka.out)):Kb≠Oa));clear Xa Ka HB;obtain ⟨Xa,Ka,HB,Ma,Xp,Ob,Ua,Jb⟩:=n_;clear hb hbox hg;(try have hnb37:=Jb.out);(try have hnc37:=Ua.out);have Jn:w36.cell? ⟨Kb,0,none⟩=some (.int .i64 0):=(blk_cell Ma.out 0).trans rfl;have Kn:w36.cell? ⟨Kb,1,none⟩=some (.int .i64 0):=(blk_cell Ma.out 1).trans rfl;have Mn:w36.cell? ⟨Kb,2,none⟩=some (.int .i64 0):=(blk_cell Ma.out 2).trans rfl;have On:=blk_frozen Ma.out 0;have Un:=blk_frozen Ma.out 1;have Xn:=blk_frozen Ma.out 2;have Jo:w36.cell? ⟨Oa,0,none⟩=some (.int .i64 a0_0):=(blk_cell Ka.out 0).trans rfl;have Ko:w36.cell? ⟨Oa,1,none⟩=some (.slice A0_1 l0_1.length c0_1):=(blk_cell Ka.out 1).trans rfl;have Mo:w36.cell? ⟨Oa,2,none⟩=some (.slice A0_2 l0_2.length c0_2):=(blk_cell Ka.out 2).trans rfl;have Oo:w36.cell? ⟨Oa,3,none⟩=some (.slice A0_3 l0_3.length c0_3):=(blk_cell Ka.out 3).trans rfl;have Uo:=blk_frozen Ka.out 0;have Xo:=blk_frozen Ka.out 1;have Jp:=blk_frozen Ka.out 2;have Kp:=blk_frozen Ka.out 3)))
                (try simp only [Act.put, List.setIfInBounds_toArray, List.set_cons_zero, List.set_cons_succ])
                go_cut [7] (fun v7 wc=>∃ (kq:Nat) (x7_34:Int),v7=.int .i64 x7_34∧Aside0 (spec_LineOk.j4 kq Ja x4_2 x7_34 a0_0 l0_1 l0_2 l0_3 ((rd_T38 Ja x4_2).f1.f0) ((rd_T38 Ja x4_2).f1.f1) ((rd_T38 Ja x4_2).f1.f2)=some r)∧Aside0 (kq≤k4)∧Aside0 (Kd.R k38 38 wc w.heap.size (fun _=>True) (.slice (some ad126) Ja.length Ub) Ja)∧Aside0 (wc.heap[Oa]?=some (.cells #[.int .i64 a0_0,(.slice A0_1 l0_1.length c0_1),(.slice A0_2 l0_2.length c0_2),(.slice A0_3 l0_3.length c0_3)] 32 (0,0)))∧Aside0 (wc.heap[Kb]?=some (.cells #[.int .i64 ((rd_T38 Ja x4_2).f1.f0),.int .i64 ((rd_T38 Ja x4_2).f1.f1),.int .i64 ((rd_T38 Ja x4_2).f1.f2)] 36 (0,0)))∧Aside0 (Below w.heap.size w wc))
                case first =>
                 have H := HC35.out; clear HC35
                 by_cases c40 : x4_2 < (l0_3.length : Int)
                 ·rw [if_pos c40] at H
                  have c40b0:decide (x4_2 < (l0_3.length:Int))=true:=decide_eq_true c40;clear c40;(first|rw [c40b0]|(simp only [i64_w,i32_w];rw [c40b0])|(have cz_:=c40b0;simp only [bne,gt_iff_lt,Int.natCast_pos] at cz_;first|rw [cz_]|(simp only [i64_w,i32_w];rw [cz_]))|skip);have H':=Aside0.mk H;clear H
                  go_wp2
                  repeat (go_quiet (fail); try go_wp2)
                  go_meet
                  case rel=>exact ⟨_,(2),Z28,H',⟨by have:=HJ1.out;have:=HK2.out;have:=HJ21.out;have:=HK4.out;first|omega|exact Nat.le_refl _⟩,⟨pR_ (Kd.R_mono (fr_ (fr_ (fr_ (Kd.R_types Xa.out Ma.out (by decide)) 0 (.int .i64 ((rd_T38 Ja x4_2).f1.f0))) 1 (.int .i64 ((rd_T38 Ja x4_2).f1.f1))) 2 (.int .i64 ((rd_T38 Ja x4_2).f1.f2))) (fun _ hk=>trivial))⟩,⟨by (with_reducible repeat (first|refine blk_drewN ?_ _|refine blk_drew ?_|refine blk_alloc ?_ _));refine blk_far ?_ Ua.out _;(with_reducible repeat (first|refine blk_drewN ?_ _|refine blk_drew ?_|refine blk_alloc ?_ _));refine blk_far ?_ Ua.out _;(with_reducible repeat (first|refine blk_drewN ?_ _|refine blk_drew ?_|refine blk_alloc ?_ _));refine blk_far ?_ Ua.out _;(with_reducible repeat (first|refine blk_drewN ?_ _|refine blk_drew ?_|refine blk_alloc ?_ _));exact Ka.out⟩,⟨by (with_reducible repeat (first|refine blk_drewN ?_ _|refine blk_drew ?_|refine blk_alloc ?_ _));refine blk_put (cs:=#[.int .i64 ((rd_T38 Ja x4_2).f1.f0),.int .i64 ((rd_T38 Ja x4_2).f1.f1),.int .i64 0]) ?_ 2 _ rfl;(with_reducible repeat (first|refine blk_drewN ?_ _|refine blk_drew ?_|refine blk_alloc ?_ _));refine blk_put (cs:=#[.int .i64 ((rd_T38 Ja x4_2).f1.f0),.int .i64 0,.int .i64 0]) ?_ 1 _ rfl;(with_reducible repeat (first|refine blk_drewN ?_ _|refine blk_drew ?_|refine blk_alloc ?_ _));refine blk_put (cs:=#[.int .i64 0,.int .i64 0,.int .i64 0]) ?_ 0 _ rfl;(with_reducible repeat (first|refine blk_drewN ?_ _|refine blk_drew ?_|refine blk_alloc ?_ _));exact Ma.out⟩,⟨pB_ HB.out⟩⟩
                 ·rw [if_neg c40] at H
                  have c40b0:decide (x4_2 < (l0_3.length:Int))=false:=decide_eq_false c40;clear c40;(first|rw [c40b0]|(simp only [i64_w,i32_w];rw [c40b0])|(have cz_:=c40b0;simp only [bne,gt_iff_lt,Int.natCast_pos] at cz_;first|rw [cz_]|(simp only [i64_w,i32_w];rw [cz_]))|skip)
                  by_cases c41 : x4_2 < (wrap64 ((l0_3.length : Int) + (l0_2.length : Int)))
                  ·rw [if_pos c41] at H
                   have c41b0:decide (x4_2 < (wrap64 ((l0_3.length:Int) + (l0_2.length:Int))))=true:=decide_eq_true c41;clear c41;have H':=Aside0.mk H;clear H;(try have hnb42:=Ua.out);(try have hnc42:=Jb.out);obtain ⟨Jq,Kq,Mq,Oq,Uq,Xq,Jr,Kr⟩:=cells4 Ka.out
                   go_wp2
                   repeat (go_quiet (fail); try go_wp2)
                   go_meet
                   case rel=>exact ⟨_,(1),Z28,H',⟨by have:=HJ1.out;have:=HK2.out;have:=HJ21.out;have:=HK4.out;first|omega|exact Nat.le_refl _⟩,⟨pR_ (Kd.R_mono (fr_ (fr_ (fr_ (Kd.R_types Xa.out Ma.out (by decide)) 0 (.int .i64 ((rd_T38 Ja x4_2).f1.f0))) 1 (.int .i64 ((rd_T38 Ja x4_2).f1.f1))) 2 (.int .i64 ((rd_T38 Ja x4_2).f1.f2))) (fun _ hk=>trivial))⟩,⟨by (with_reducible repeat (first|refine blk_drewN ?_ _|refine blk_drew ?_|refine blk_alloc ?_ _));refine blk_far ?_ Ua.out _;(with_reducible repeat (first|refine blk_drewN ?_ _|refine blk_drew ?_|refine blk_alloc ?_ _));refine blk_far ?_ Ua.out _;(with_reducible repeat (first|refine blk_drewN ?_ _|refine blk_drew ?_|refine blk_alloc ?_ _));refine blk_far ?_ Ua.out _;(with_reducible repeat (first|refine blk_drewN ?_ _|refine blk_drew ?_|refine blk_alloc ?_ _));exact Ka.out⟩,⟨by (with_reducible repeat (first|refine blk_drewN ?_ _|refine blk_drew ?_|refine blk_alloc ?_ _));refine blk_put (cs:=#[.int .i64 ((rd_T38 Ja x4_2).f1.f0),.int .i64 ((rd_T38 Ja x4_2).f1.f1),.int .i64 0]) ?_ 2 _ rfl;(with_reducible repeat (first|refine blk_drewN ?_ _|refine blk_drew ?_|refine blk_alloc ?_ _));refine blk_put (cs:=#[.int .i64 ((rd_T38 Ja x4_2).f1.f0),.int .i64 0,.int .i64 0]) ?_ 1 _ rfl;(with_reducible repeat (first|refine blk_drewN ?_ _|refine blk_drew ?_|refine blk_alloc ?_ _));refine blk_put (cs:=#[.int .i64 0,.int .i64 0,.int .i64 0]) ?_ 0 _ rfl;(with_reducible repeat (first|refine blk_drewN ?_ _|refine blk_drew ?_|refine blk_alloc ?_ _));exact Ma.out⟩,⟨pB_ HB.out⟩⟩
                  ·rw [if_neg c41] at H
                   have c41b0:decide (x4_2 < (wrap64 ((l0_3.length:Int) + (l0_2.length:Int))))=false:=decide_eq_false c41;clear c41;have H':=Aside0.mk H;clear H;(try have hnb44:=Ua.out);(try have hnc44:=Jb.out);obtain ⟨Mr,Or,Ur,Xr,Js,Ks,Ms,Os⟩:=cells4 Ka.out
                   go_wp2
                   repeat (go_quiet (fail); try go_wp2)
                   go_meet
                   case rel=>exact ⟨_,(0),Z28,H',⟨by have:=HJ1.out;have:=HK2.out;have:=HJ21.out;have:=HK4.out;first|omega|exact Nat.le_refl _⟩,⟨pR_ (Kd.R_mono (fr_ (fr_ (fr_ (Kd.R_types Xa.out Ma.out (by decide)) 0 (.int .i64 ((rd_T38 Ja x4_2).f1.f0))) 1 (.int .i64 ((rd_T38 Ja x4_2).f1.f1))) 2 (.int .i64 ((rd_T38 Ja x4_2).f1.f2))) (fun _ hk=>trivial))⟩,⟨by (with_reducible repeat (first|refine blk_drewN ?_ _|refine blk_drew ?_|refine blk_alloc ?_ _));refine blk_far ?_ Ua.out _;(with_reducible repeat (first|refine blk_drewN ?_ _|refine blk_drew ?_|refine blk_alloc ?_ _));refine blk_far ?_ Ua.out _;(with_reducible repeat (first|refine blk_drewN ?_ _|refine blk_drew ?_|refine blk_alloc ?_ _));refine blk_far ?_ Ua.out _;(with_reducible repeat (first|refine blk_drewN ?_ _|refine blk_drew ?_|refine blk_alloc ?_ _));exact Ka.out⟩,⟨by (with_reducible repeat (first|refine blk_drewN ?_ _|refine blk_drew ?_|refine blk_alloc ?_ _));refine blk_put (cs:=#[.int .i64 ((rd_T38 Ja x4_2).f1.f0),.int .i64 ((rd_T38 Ja x4_2).f1.f1),.int .i64 0]) ?_ 2 _ rfl;(with_reducible repeat (first|refine blk_drewN ?_ _|refine blk_drew ?_|refine blk_alloc ?_ _));refine blk_put (cs:=#[.int .i64 ((rd_T38 Ja x4_2).f1.f0),.int .i64 0,.int .i64 0]) ?_ 1 _ rfl;(with_reducible repeat (first|refine blk_drewN ?_ _|refine blk_drew ?_|refine blk_alloc ?_ _));refine blk_put (cs:=#[.int .i64 0,.int .i64 0,.int .i64 0]) ?_ 0 _ rfl;(with_reducible repeat (first|refine blk_drewN ?_ _|refine blk_drew ?_|refine blk_alloc ?_ _));exact Ma.out⟩,⟨pB_ HB.out⟩⟩
                case rest =>
                 clear HC35
                 try clear c1
                 try clear p1
                 try clear q1
                 try clear hx1
                 try clear c2
                 try clear p2
                 try clear c3
                 try clear c4
                 try clear c4b0
                 try clear c6
                 try clear c6b0
                 try clear p6
                 try clear c8
                 try clear c8b0
                 try clear c10
                 try clear c10b0
                 try clear p12
                 try clear q12
                 try clear hx12
                 try clear c13
                 try clear c20
                 try clear c20b0
                 try clear c21
                 try clear c21b0
                 try clear c23
                 try clear c23b0
                 try clear c24
                 try clear c24b0
                 try clear c25
                 try clear c26
                 try clear c26b0
                 try clear c27
                 try clear c27b0
                 try clear c28
                 try clear c28b0
                 try clear c29
                 try clear c29b0
                 try clear c30
                 try clear c30b0
                 try clear c32
                 try clear c32b0
                 try clear c32b1
                 try clear c33
                 try clear c33b0
                 try clear c34
                 try clear c34b0
                 try clear c37
                 try clear c40
                 try clear c40b0
                 try clear c41
                 try clear c41b0
                 try clear c42
                 try clear c44
                 try clear Mh Oh Uh Xh Ji Ki Mi Oi
                 try clear Ui Xi Jj Kj Mj Oj Uj Xj
                 try clear Kk Mk Ok Uk Xk Jm Km Mm
                 try clear Xb Jc Kc Mc Oc Uc Xc Jd
                 try clear Jn Kn Mn On Un Xn
                 try clear Jo Ko Mo Oo Uo Xo Jp Kp
                 try clear Jq Kq Mq Oq Uq Xq Jr Kr
                 try clear Mr Or Ur Xr Js Ks Ms Os
                 try clear Md Od Ud Xd Je Ke Me Oe
                 try clear Ue Xe Jf Kf Mf Of Uf Xf
                 try clear Jg Kg Mg Og Ug Xg Jh Kh
                 try clear hx122_0 hx122_1 hx122_2 hx122_3
                 try clear hx123_0 hx123_1 hx123_2 hx123_3
                 try clear hx124_0 hx124_1 hx124_2 hx124_3
                 try clear hx125_0 hx125_1 hx125_2 hx125_3
                 try clear hx126_0 hx126_1 hx126_2 hx126_3
                 try clear p1
                 try clear p12
                 try clear p122
                 try clear p123
                 try clear p124
                 try clear p125
                 try clear p126
                 try clear p2
                 try clear q1
                 try clear q12
                 try clear q122
                 try clear q123
                 try clear q124
                 try clear q125
                 try clear q126
                 obtain ⟨kq, x7_34, rfl, HA, HJ34, Xa, Ka, Ma, HB⟩ := hcut
                 cases kq with
                 | zero => exact absurd HA.out (by simp [spec_LineOk.j4])
                 | succ kj34 =>
                  have H := HA.out; clear HA; simp only [spec_LineOk.j4] at H; have HC46 := Aside0.mk H; clear H
                  go_upto_region 22 with (fail)
                  repeat (go_quiet (fail); go_upto_region 22 with (fail))
                  go_cut [122] (fun Us wc=>∃ (kq:Nat) (Mp:Bool),Us=.bool Mp∧Aside0 (spec_LineOk.j5 kq Ja x4_2 x7_34 Mp a0_0 l0_1 l0_2 l0_3 ((rd_T38 Ja x4_2).f1.f0) ((rd_T38 Ja x4_2).f1.f1) ((rd_T38 Ja x4_2).f1.f2)=some r)∧Aside0 (kq≤kj34)∧Aside0 (Kd.R k38 38 wc w.heap.size (fun _=>True) (.slice (some ad126) Ja.length Ub) Ja)∧Aside0 (wc.heap[Oa]?=some (.cells #[.int .i64 a0_0,(.slice A0_1 l0_1.length c0_1),(.slice A0_2 l0_2.length c0_2),(.slice A0_3 l0_3.length c0_3)] 32 (0,0)))∧Aside0 (wc.heap[Kb]?=some (.cells #[.int .i64 ((rd_T38 Ja x4_2).f1.f0),.int .i64 ((rd_T38 Ja x4_2).f1.f1),.int .i64 ((rd_T38 Ja x4_2).f1.f2)] 36 (0,0)))∧Aside0 (Below w.heap.size w wc))
                  case first =>
                   have H := HC46.out; clear HC46
                   by_cases c47 : x7_34 > 0
                   ·rw [if_pos c47] at H
                    have c47b0:decide (0 < x7_34)=true:=decide_eq_true c47;clear c47;(first|rw [c47b0]|(simp only [i64_w,i32_w];rw [c47b0])|(have cz_:=c47b0;simp only [bne,gt_iff_lt,Int.natCast_pos] at cz_;first|rw [cz_]|(simp only [i64_w,i32_w];rw [cz_]))|skip)
                    by_cases c48 : ((rd_T38 Ja x4_2).f1.f0) = 0
                    ·rw [if_pos c48] at H
                     have c48b0 : (((rd_T38 Ja x4_2).f1.f0) == 0) = true := beq_iff_eq.mpr c48; have c48b1 : (((rd_T38 Ja x4_2).f1.f0) != 0) = false := bne_eq_false_iff_eq.mpr c48; clear c48
                     by_cases c49 : x7_34 = 0
                     ·rw [if_pos c49] at H
                      have c49b0 : (x7_34 == 0) = true := beq_iff_eq.mpr c49; have c49b1 : (x7_34 != 0) = false := bne_eq_false_iff_eq.mpr c49; clear c49
                      by_cases c50 : ((rd_T38 Ja x4_2).f1.f0) < 1
                      ·rw [if_pos c50] at H
                       have c50b0:decide (((rd_T38 Ja x4_2).f1.f0) < 1)=true:=decide_eq_true c50;clear c50;have H':=Aside0.mk H;clear H;(try have hnb51:=Jb.out);(try have hnc51:=Ua.out);obtain ⟨Xs,Ju,Ku,Mu,Ou,Uu⟩:=cells3 Ma.out
                       go_wp2
                       repeat (go_quiet (fail); try go_wp2)
                       go_meet
                       case rel=>exact ⟨_,(true),Z28,H',⟨by have:=HJ1.out;have:=HK2.out;have:=HJ21.out;have:=HK4.out;have:=HJ34.out;first|omega|exact Nat.le_refl _⟩,⟨pR_ Xa.out⟩,⟨pk_ Ka.out⟩,⟨pk_ Ma.out⟩,⟨pB_ HB.out⟩⟩
                      ·rw [if_neg c50] at H
                       have c50b0:decide (((rd_T38 Ja x4_2).f1.f0) < 1)=false:=decide_eq_false c50;clear c50;have H':=Aside0.mk H;clear H;(try have hnb53:=Jb.out);(try have hnc53:=Ua.out);obtain ⟨Xu,Jv,Kv,Mv,Ov,Uv⟩:=cells3 Ma.out
                       go_wp2
                       repeat (go_quiet (fail); try go_wp2)
                       go_meet
                       case rel=>exact ⟨_,(decide (((rd_T38 Ja x4_2).f1.f0) > 1000)),Z28,H',⟨by have:=HJ1.out;have:=HK2.out;have:=HJ21.out;have:=HK4.out;have:=HJ34.out;first|omega|exact Nat.le_refl _⟩,⟨pR_ Xa.out⟩,⟨pk_ Ka.out⟩,⟨pk_ Ma.out⟩,⟨pB_ HB.out⟩⟩
                     ·rw [if_neg c49] at H
                      have c49b0:(x7_34 == 0)=false:=beq_eq_false_iff_ne.mpr c49;have c49b1:(x7_34 != 0)=true:=bne_iff_ne.mpr c49;have H':=Aside0.mk H;clear H;(try have hnb55:=Jb.out);(try have hnc55:=Ua.out);obtain ⟨Xv,Jx,Kx,Mx,Ox,Ux⟩:=cells3 Ma.out
                      go_wp2
                      repeat (go_quiet (fail); try go_wp2)
                      go_meet
                      case rel=>exact ⟨_,(false),Z28,H',⟨by have:=HJ1.out;have:=HK2.out;have:=HJ21.out;have:=HK4.out;have:=HJ34.out;first|omega|exact Nat.le_refl _⟩,⟨pR_ Xa.out⟩,⟨pk_ Ka.out⟩,⟨pk_ Ma.out⟩,⟨pB_ HB.out⟩⟩
                    ·rw [if_neg c48] at H
                     have c48b0:(((rd_T38 Ja x4_2).f1.f0) == 0)=false:=beq_eq_false_iff_ne.mpr c48;have c48b1:(((rd_T38 Ja x4_2).f1.f0) != 0)=true:=bne_iff_ne.mpr c48;have H':=Aside0.mk H;clear H;(try have hnb57:=Jb.out);(try have hnc57:=Ua.out);obtain ⟨Xx,Jy,Ky,My,Oy,Uy⟩:=cells3 Ma.out
                     go_wp2
                     repeat (go_quiet (fail); try go_wp2)
                     go_meet
                     case rel=>exact ⟨_,(true),Z28,H',⟨by have:=HJ1.out;have:=HK2.out;have:=HJ21.out;have:=HK4.out;have:=HJ34.out;first|omega|exact Nat.le_refl _⟩,⟨pR_ Xa.out⟩,⟨pk_ Ka.out⟩,⟨pk_ Ma.out⟩,⟨pB_ HB.out⟩⟩
                   ·rw [if_neg c47] at H
                    have c47b0:decide (0 < x7_34)=false:=decide_eq_false c47;clear c47;(first|rw [c47b0]|(simp only [i64_w,i32_w];rw [c47b0])|(have cz_:=c47b0;simp only [bne,gt_iff_lt,Int.natCast_pos] at cz_;first|rw [cz_]|(simp only [i64_w,i32_w];rw [cz_]))|skip)
                    by_cases c59 : x7_34 = 0
                    ·rw [if_pos c59] at H
                     have c59b0 : (x7_34 == 0) = true := beq_iff_eq.mpr c59; have c59b1 : (x7_34 != 0) = false := bne_eq_false_iff_eq.mpr c59; clear c59
                     by_cases c60 : ((rd_T38 Ja x4_2).f1.f0) < 1
                     ·rw [if_pos c60] at H
                      have c60b0:decide (((rd_T38 Ja x4_2).f1.f0) < 1)=true:=decide_eq_true c60;clear c60;have H':=Aside0.mk H;clear H;(try have hnb61:=Jb.out);(try have hnc61:=Ua.out);obtain ⟨Xy,Jz,Kz,Mz,Oz,Uz⟩:=cells3 Ma.out
                      go_wp2
                      repeat (go_quiet (fail); try go_wp2)
                      go_meet
                      case rel=>exact ⟨_,(true),Z28,H',⟨by have:=HJ1.out;have:=HK2.out;have:=HJ21.out;have:=HK4.out;have:=HJ34.out;first|omega|exact Nat.le_refl _⟩,⟨pR_ Xa.out⟩,⟨pk_ Ka.out⟩,⟨pk_ Ma.out⟩,⟨pB_ HB.out⟩⟩
                     ·rw [if_neg c60] at H
                      have c60b0:decide (((rd_T38 Ja x4_2).f1.f0) < 1)=false:=decide_eq_false c60;clear c60;have H':=Aside0.mk H;clear H;(try have hnb63:=Jb.out);(try have hnc63:=Ua.out);obtain ⟨Xz,Ja1,Ka1,Ma1,Oa1,Ua1⟩:=cells3 Ma.out
                      go_wp2
                      repeat (go_quiet (fail); try go_wp2)
                      go_meet
                      case rel=>exact ⟨_,(decide (((rd_T38 Ja x4_2).f1.f0) > 1000)),Z28,H',⟨by have:=HJ1.out;have:=HK2.out;have:=HJ21.out;have:=HK4.out;have:=HJ34.out;first|omega|exact Nat.le_refl _⟩,⟨pR_ Xa.out⟩,⟨pk_ Ka.out⟩,⟨pk_ Ma.out⟩,⟨pB_ HB.out⟩⟩
                    ·rw [if_neg c59] at H
                     have c59b0 : (x7_34 == 0) = false := beq_eq_false_iff_ne.mpr c59; have c59b1 : (x7_34 != 0) = true := bne_iff_ne.mpr c59; have H' := Aside0.mk H; clear H
                     go_wp2
                     repeat (go_quiet (fail); try go_wp2)
                     go_meet
                     case rel=>exact ⟨_,(false),Z28,H',⟨by have:=HJ1.out;have:=HK2.out;have:=HJ21.out;have:=HK4.out;have:=HJ34.out;first|omega|exact Nat.le_refl _⟩,⟨pR_ Xa.out⟩,⟨pk_ Ka.out⟩,⟨pk_ Ma.out⟩,⟨pB_ HB.out⟩⟩
                  case rest =>
                   clear HC46
                   try clear c1
                   try clear p1
                   try clear q1
                   try clear hx1
                   try clear c2
                   try clear p2
                   try clear c3
                   try clear c4
                   try clear c4b0
                   try clear c5
                   try clear c6
                   try clear c6b0
                   try clear p6
                   try clear c8
                   try clear c8b0
                   try clear c10
                   try clear c10b0
                   try clear p12
                   try clear q12
                   try clear hx12
                   try clear c13
                   try clear c20
                   try clear c20b0
                   try clear c21
                   try clear c21b0
                   try clear c23
                   try clear c23b0
                   try clear c24
                   try clear c24b0
                   try clear c25
                   try clear c26
                   try clear c26b0
                   try clear c27
                   try clear c27b0
                   try clear c28
                   try clear c28b0
                   try clear c29
                   try clear c29b0
                   try clear c30
                   try clear c30b0
                   try clear c32
                   try clear c32b0
                   try clear c32b1
                   try clear c33
                   try clear c33b0
                   try clear c34
                   try clear c34b0
                   try clear c37
                   try clear c40
                   try clear c40b0
                   try clear c41
                   try clear c41b0
                   try clear c42
                   try clear c44
                   try clear c47
                   try clear c47b0
                   try clear c48
                   try clear c48b0
                   try clear c48b1
                   try clear c49
                   try clear c49b0
                   try clear c49b1
                   try clear c50
                   try clear c50b0
                   try clear c51
                   try clear c53
                   try clear c55
                   try clear c57
                   try clear c59
                   try clear c59b0
                   try clear c59b1
                   try clear c60
                   try clear c60b0
                   try clear c61
                   try clear c63
                   try clear p64
                   try clear Mh Oh Uh Xh Ji Ki Mi Oi
                   try clear Ui Xi Jj Kj Mj Oj Uj Xj
                   try clear Kk Mk Ok Uk Xk Jm Km Mm
                   try clear Xb Jc Kc Mc Oc Uc Xc Jd
                   try clear Jn Kn Mn On Un Xn
                   try clear Jo Ko Mo Oo Uo Xo Jp Kp
                   try clear Jq Kq Mq Oq Uq Xq Jr Kr
                   try clear Mr Or Ur Xr Js Ks Ms Os
                   try clear Xs Ju Ku Mu Ou Uu
                   try clear Xu Jv Kv Mv Ov Uv
                   try clear Xv Jx Kx Mx Ox Ux
                   try clear Xx Jy Ky My Oy Uy
                   try clear Md Od Ud Xd Je Ke Me Oe
                   try clear Xy Jz Kz Mz Oz Uz
                   try clear Xz Ja1 Ka1 Ma1 Oa1 Ua1
                   try clear Ue Xe Jf Kf Mf Of Uf Xf
                   try clear Jg Kg Mg Og Ug Xg Jh Kh
                   try clear hx122_0 hx122_1 hx122_2 hx122_3
                   try clear hx123_0 hx123_1 hx123_2 hx123_3
                   try clear hx124_0 hx124_1 hx124_2 hx124_3
                   try clear hx125_0 hx125_1 hx125_2 hx125_3
                   try clear hx126_0 hx126_1 hx126_2 hx126_3
                   try clear p1
                   try clear p12
                   try clear p122
                   try clear p123
                   try clear p124
                   try clear p125
                   try clear p126
                   try clear p2
                   try clear p6
                   try clear q1
                   try clear q12
                   try clear q122
                   try clear q123
                   try clear q124
                   try clear q125
                   try clear q126
                   obtain ⟨kq, Mp, rfl, HA, HJ45, Xa, Ka, Ma, HB⟩ := hcut
                   cases kq with
                   | zero => exact absurd HA.out (by simp [spec_LineOk.j5])
                   | succ kj45 =>
                    have H := HA.out; clear HA; simp only [spec_LineOk.j5] at H
                    by_cases c65 : Mp = true
                    ·subst c65
                     rw [if_pos rfl] at H; obtain rfl := Option.some.inj H
                     go_wp2
                     repeat (go_quiet (fail); try go_wp2)
                     go_ret;exact ⟨by first|rfl|(simp [errW_none,errW_some] <;> rfl)|(simp [*,errW_none,errW_some] <;> rfl),by repeat (first|(with_reducible first|exact HB.out|apply below_alloc|apply pw_below_drewN|apply below_drew1|refine below_set ?_ Mb.out|refine below_set ?_ Ob.out)|exact HB.out)⟩
                    ·replace c65 := Bool.eq_false_iff.mpr c65
                     subst c65; rw [if_neg (show ¬ (false = true) by decide)] at H
                     by_cases c66 : x7_34 = 2
                     ·rw [if_pos c66] at H
                      have c66b0 : (x7_34 == 2) = true := beq_iff_eq.mpr c66; have c66b1 : (x7_34 != 2) = false := bne_eq_false_iff_eq.mpr c66; clear c66
                      by_cases c67 : ((rd_T38 Ja x4_2).f1.f1) = 0
                      ·rw [if_pos c67] at H
                       have c67b0 : (((rd_T38 Ja x4_2).f1.f1) == 0) = true := beq_iff_eq.mpr c67; have c67b1 : (((rd_T38 Ja x4_2).f1.f1) != 0) = false := bne_eq_false_iff_eq.mpr c67; clear c67
                       by_cases c68 : x7_34 < 2
                       ·rw [if_pos c68] at H
                        have c68b0 : decide (x7_34 < 2) = true := decide_eq_true c68; clear c68
                        by_cases c69 : ((rd_T38 Ja x4_2).f1.f1) < 1
                        ·rw [if_pos c69] at H
                         have c69b0:decide (((rd_T38 Ja x4_2).f1.f1) < 1)=true:=decide_eq_true c69;clear c69;obtain rfl:=Option.some.inj H;(try have hnb70:=Jb.out);(try have hnc70:=Ua.out);obtain ⟨Xa1,Jb1,Kb1,Mb1,Ob1,Ub1⟩:=cells3 Ma.out
                         go_wp2
                         repeat (go_quiet (fail); try go_wp2)
                         go_ret;exact ⟨by first|rfl|(simp [errW_none,errW_some] <;> rfl)|(simp [*,errW_none,errW_some] <;> rfl),by repeat (first|(with_reducible first|exact HB.out|apply below_alloc|apply pw_below_drewN|apply below_drew1|refine below_set ?_ Mb.out|refine below_set ?_ Ob.out)|exact HB.out)⟩
                        ·rw [if_neg c69] at H
                         have c69b0 : decide (((rd_T38 Ja x4_2).f1.f1) < 1) = false := decide_eq_false c69; clear c69
                         by_cases c72 : ((rd_T38 Ja x4_2).f1.f1) > 1000
                         ·rw [if_pos c72] at H
                          have c72b0:decide (1000 < ((rd_T38 Ja x4_2).f1.f1))=true:=decide_eq_true c72;clear c72;obtain rfl:=Option.some.inj H;(try have hnb73:=Jb.out);(try have hnc73:=Ua.out);obtain ⟨Xb1,Jc1,Kc1,Mc1,Oc1,Uc1⟩:=cells3 Ma.out
                          go_wp2
                          repeat (go_quiet (fail); try go_wp2)
                          go_ret;exact ⟨by first|rfl|(simp [errW_none,errW_some] <;> rfl)|(simp [*,errW_none,errW_some] <;> rfl),by repeat (first|(with_reducible first|exact HB.out|apply below_alloc|apply pw_below_drewN|apply below_drew1|refine below_set ?_ Mb.out|refine below_set ?_ Ob.out)|exact HB.out)⟩
                         ·rw [if_neg c72] at H
                          have c72b0 : decide (1000 < ((rd_T38 Ja x4_2).f1.f1)) = false := decide_eq_false c72; clear c72
                          by_cases c75 : ((rd_T38 Ja x4_2).f1.f2) < 1
                          ·rw [if_pos c75] at H
                           have c75b0:decide (((rd_T38 Ja x4_2).f1.f2) < 1)=true:=decide_eq_true c75;clear c75;obtain rfl:=Option.some.inj H;(try have hnb76:=Jb.out);(try have hnc76:=Ua.out);obtain ⟨Xc1,Jd1,Kd1,Md1,Od1,Ud1⟩:=cells3 Ma.out
                           go_wp2
                           repeat (go_quiet (fail); try go_wp2)
                           go_ret;exact ⟨by first|rfl|(simp [errW_none,errW_some] <;> rfl)|(simp [*,errW_none,errW_some] <;> rfl),by repeat (first|(with_reducible first|exact HB.out|apply below_alloc|apply pw_below_drewN|apply below_drew1|refine below_set ?_ Mb.out|refine below_set ?_ Ob.out)|exact HB.out)⟩
                          ·rw [if_neg c75] at H
                           have c75b0 : decide (((rd_T38 Ja x4_2).f1.f2) < 1) = false := decide_eq_false c75; clear c75
                           by_cases c78 : ((rd_T38 Ja x4_2).f1.f2) > 1000
                           ·rw [if_pos c78] at H
                            have c78b0:decide (1000 < ((rd_T38 Ja x4_2).f1.f2))=true:=decide_eq_true c78;clear c78;obtain rfl:=Option.some.inj H;(try have hnb79:=Jb.out);(try have hnc79:=Ua.out);obtain ⟨Xd1,Je1,Ke1,Me1,Oe1,Ue1⟩:=cells3 Ma.out
                            go_wp2
                            repeat (go_quiet (fail); try go_wp2)
                            go_ret;exact ⟨by first|rfl|(simp [errW_none,errW_some] <;> rfl)|(simp [*,errW_none,errW_some] <;> rfl),by repeat (first|(with_reducible first|exact HB.out|apply below_alloc|apply pw_below_drewN|apply below_drew1|refine below_set ?_ Mb.out|refine below_set ?_ Ob.out)|exact HB.out)⟩
                           ·rw [if_neg c78] at H
                            have c78b0:decide (1000 < ((rd_T38 Ja x4_2).f1.f2))=false:=decide_eq_false c78;clear c78;have H':=Aside0.mk H;clear H;(try have hnb81:=Jb.out);(try have hnc81:=Ua.out);obtain ⟨Xe1,Jf1,Kf1,Mf1,Of1,Uf1⟩:=cells3 Ma.out
                            go_wp2
                            repeat (go_quiet (fail); try go_wp2)
                            go_roundg kj45
                            case measure => have := HJ1.out; have := HK2.out; have := HJ21.out; have := HK4.out; have := HJ34.out; have := HJ45.out; omega
                            case rel=>exact ⟨(wrap64 (x4_2 + 1)),Z28,H',⟨by have:=HJ1.out;have:=HK2.out;have:=HJ21.out;have:=HK4.out;have:=HJ34.out;have:=HJ45.out;omega⟩,⟨pR_ Xa.out⟩,⟨pk_ Ka.out⟩,⟨pB_ HB.out⟩⟩
                       ·rw [if_neg c68] at H
                        have c68b0 : decide (x7_34 < 2) = false := decide_eq_false c68; clear c68
                        by_cases c83 : ((rd_T38 Ja x4_2).f1.f2) < 1
                        ·rw [if_pos c83] at H
                         have c83b0:decide (((rd_T38 Ja x4_2).f1.f2) < 1)=true:=decide_eq_true c83;clear c83;obtain rfl:=Option.some.inj H;(try have hnb84:=Jb.out);(try have hnc84:=Ua.out);obtain ⟨Xf1,Jg1,Kg1,Mg1,Og1,Ug1⟩:=cells3 Ma.out
                         go_wp2
                         repeat (go_quiet (fail); try go_wp2)
                         go_ret;exact ⟨by first|rfl|(simp [errW_none,errW_some] <;> rfl)|(simp [*,errW_none,errW_some] <;> rfl),by repeat (first|(with_reducible first|exact HB.out|apply below_alloc|apply pw_below_drewN|apply below_drew1|refine below_set ?_ Mb.out|refine below_set ?_ Ob.out)|exact HB.out)⟩
                        ·rw [if_neg c83] at H
                         have c83b0 : decide (((rd_T38 Ja x4_2).f1.f2) < 1) = false := decide_eq_false c83; clear c83
                         by_cases c86 : ((rd_T38 Ja x4_2).f1.f2) > 1000
                         ·rw [if_pos c86] at H
                          have c86b0:decide (1000 < ((rd_T38 Ja x4_2).f1.f2))=true:=decide_eq_true c86;clear c86;obtain rfl:=Option.some.inj H;(try have hnb87:=Jb.out);(try have hnc87:=Ua.out);obtain ⟨Xg1,Jh1,Kh1,Mh1,Oh1,Uh1⟩:=cells3 Ma.out
                          go_wp2
                          repeat (go_quiet (fail); try go_wp2)
                          go_ret;exact ⟨by first|rfl|(simp [errW_none,errW_some] <;> rfl)|(simp [*,errW_none,errW_some] <;> rfl),by repeat (first|(with_reducible first|exact HB.out|apply below_alloc|apply pw_below_drewN|apply below_drew1|refine below_set ?_ Mb.out|refine below_set ?_ Ob.out)|exact HB.out)⟩
                         ·rw [if_neg c86] at H
                          have c86b0:decide (1000 < ((rd_T38 Ja x4_2).f1.f2))=false:=decide_eq_false c86;clear c86;have H':=Aside0.mk H;clear H;(try have hnb89:=Jb.out);(try have hnc89:=Ua.out);obtain ⟨Xh1,Ji1,Ki1,Mi1,Oi1,Ui1⟩:=cells3 Ma.out
                          go_wp2
                          repeat (go_quiet (fail); try go_wp2)
                          go_roundg kj45
                          case measure => have := HJ1.out; have := HK2.out; have := HJ21.out; have := HK4.out; have := HJ34.out; have := HJ45.out; omega
                          case rel=>exact ⟨(wrap64 (x4_2 + 1)),Z28,H',⟨by have:=HJ1.out;have:=HK2.out;have:=HJ21.out;have:=HK4.out;have:=HJ34.out;have:=HJ45.out;omega⟩,⟨pR_ Xa.out⟩,⟨pk_ Ka.out⟩,⟨pB_ HB.out⟩⟩
                      ·rw [if_neg c67] at H
                       have c67b0:(((rd_T38 Ja x4_2).f1.f1) == 0)=false:=beq_eq_false_iff_ne.mpr c67;have c67b1:(((rd_T38 Ja x4_2).f1.f1) != 0)=true:=bne_iff_ne.mpr c67;obtain rfl:=Option.some.inj H;(try have hnb91:=Jb.out);(try have hnc91:=Ua.out);obtain ⟨Xi1,Jj1,Kj1,Mj1,Oj1,Uj1⟩:=cells3 Ma.out
                       go_wp2
                       repeat (go_quiet (fail); try go_wp2)
                       go_ret;exact ⟨by first|rfl|(simp [errW_none,errW_some] <;> rfl)|(simp [*,errW_none,errW_some] <;> rfl),by repeat (first|(with_reducible first|exact HB.out|apply below_alloc|apply pw_below_drewN|apply below_drew1|refine below_set ?_ Mb.out|refine below_set ?_ Ob.out)|exact HB.out)⟩
                     ·rw [if_neg c66] at H
                      have c66b0 : (x7_34 == 2) = false := beq_eq_false_iff_ne.mpr c66; have c66b1 : (x7_34 != 2) = true := bne_iff_ne.mpr c66
                      by_cases c93 : x7_34 < 2
                      ·rw [if_pos c93] at H
                       have c93b0 : decide (x7_34 < 2) = true := decide_eq_true c93; clear c93
                       by_cases c94 : ((rd_T38 Ja x4_2).f1.f1) < 1
                       ·rw [if_pos c94] at H
                        have c94b0:decide (((rd_T38 Ja x4_2).f1.f1) < 1)=true:=decide_eq_true c94;clear c94;obtain rfl:=Option.some.inj H;(try have hnb95:=Jb.out);(try have hnc95:=Ua.out);obtain ⟨Xj1,Jk1,Kk1,Mk1,Ok1,Uk1⟩:=cells3 Ma.out
                        go_wp2
                        repeat (go_quiet (fail); try go_wp2)
                        go_ret;exact ⟨by first|rfl|(simp [errW_none,errW_some] <;> rfl)|(simp [*,errW_none,errW_some] <;> rfl),by repeat (first|(with_reducible first|exact HB.out|apply below_alloc|apply pw_below_drewN|apply below_drew1|refine below_set ?_ Mb.out|refine below_set ?_ Ob.out)|exact HB.out)⟩
                       ·rw [if_neg c94] at H
                        have c94b0 : decide (((rd_T38 Ja x4_2).f1.f1) < 1) = false := decide_eq_false c94; clear c94
                        by_cases c97 : ((rd_T38 Ja x4_2).f1.f1) > 1000
                        ·rw [if_pos c97] at H
                         have c97b0:decide (1000 < ((rd_T38 Ja x4_2).f1.f1))=true:=decide_eq_true c97;clear c97;obtain rfl:=Option.some.inj H;(try have hnb98:=Jb.out);(try have hnc98:=Ua.out);obtain ⟨Xk1,Jm1,Km1,Mm1,Om1,Um1⟩:=cells3 Ma.out
                         go_wp2
                         repeat (go_quiet (fail); try go_wp2)
                         go_ret;exact ⟨by first|rfl|(simp [errW_none,errW_some] <;> rfl)|(simp [*,errW_none,errW_some] <;> rfl),by repeat (first|(with_reducible first|exact HB.out|apply below_alloc|apply pw_below_drewN|apply below_drew1|refine below_set ?_ Mb.out|refine below_set ?_ Ob.out)|exact HB.out)⟩
                        ·rw [if_neg c97] at H
                         have c97b0 : decide (1000 < ((rd_T38 Ja x4_2).f1.f1)) = false := decide_eq_false c97; clear c97
                         by_cases c100 : ((rd_T38 Ja x4_2).f1.f2) < 1
                         ·rw [if_pos c100] at H
                          have c100b0:decide (((rd_T38 Ja x4_2).f1.f2) < 1)=true:=decide_eq_true c100;clear c100;obtain rfl:=Option.some.inj H;(try have hnb101:=Jb.out);(try have hnc101:=Ua.out);obtain ⟨Xm1,Jn1,Kn1,Mn1,On1,Un1⟩:=cells3 Ma.out
                          go_wp2
                          repeat (go_quiet (fail); try go_wp2)
                          go_ret;exact ⟨by first|rfl|(simp [errW_none,errW_some] <;> rfl)|(simp [*,errW_none,errW_some] <;> rfl),by repeat (first|(with_reducible first|exact HB.out|apply below_alloc|apply pw_below_drewN|apply below_drew1|refine below_set ?_ Mb.out|refine below_set ?_ Ob.out)|exact HB.out)⟩
                         ·rw [if_neg c100] at H
                          have c100b0 : decide (((rd_T38 Ja x4_2).f1.f2) < 1) = false := decide_eq_false c100; clear c100
                          by_cases c103 : ((rd_T38 Ja x4_2).f1.f2) > 1000
                          ·rw [if_pos c103] at H
                           have c103b0:decide (1000 < ((rd_T38 Ja x4_2).f1.f2))=true:=decide_eq_true c103;clear c103;obtain rfl:=Option.some.inj H;(try have hnb104:=Jb.out);(try have hnc104:=Ua.out);obtain ⟨Xn1,Jo1,Ko1,Mo1,Oo1,Uo1⟩:=cells3 Ma.out
                           go_wp2
                           repeat (go_quiet (fail); try go_wp2)
                           go_ret;exact ⟨by first|rfl|(simp [errW_none,errW_some] <;> rfl)|(simp [*,errW_none,errW_some] <;> rfl),by repeat (first|(with_reducible first|exact HB.out|apply below_alloc|apply pw_below_drewN|apply below_drew1|refine below_set ?_ Mb.out|refine below_set ?_ Ob.out)|exact HB.out)⟩
                          ·rw [if_neg c103] at H
                           have c103b0:decide (1000 < ((rd_T38 Ja x4_2).f1.f2))=false:=decide_eq_false c103;clear c103;have H':=Aside0.mk H;clear H;(try have hnb106:=Jb.out);(try have hnc106:=Ua.out);obtain ⟨Xo1,Jp1,Kp1,Mp1,Op1,Up1⟩:=cells3 Ma.out
                           go_wp2
                           repeat (go_quiet (fail); try go_wp2)
                           go_roundg kj45
                           case measure => have := HJ1.out; have := HK2.out; have := HJ21.out; have := HK4.out; have := HJ34.out; have := HJ45.out; omega
                           case rel=>exact ⟨(wrap64 (x4_2 + 1)),Z28,H',⟨by have:=HJ1.out;have:=HK2.out;have:=HJ21.out;have:=HK4.out;have:=HJ34.out;have:=HJ45.out;omega⟩,⟨pR_ Xa.out⟩,⟨pk_ Ka.out⟩,⟨pB_ HB.out⟩⟩
                      ·rw [if_neg c93] at H
                       have c93b0 : decide (x7_34 < 2) = false := decide_eq_false c93; clear c93
                       by_cases c108 : ((rd_T38 Ja x4_2).f1.f2) < 1
                       ·rw [if_pos c108] at H
                        have c108b0:decide (((rd_T38 Ja x4_2).f1.f2) < 1)=true:=decide_eq_true c108;clear c108;obtain rfl:=Option.some.inj H;(try have hnb109:=Jb.out);(try have hnc109:=Ua.out);obtain ⟨Xp1,Jq1,Kq1,Mq1,Oq1,Uq1⟩:=cells3 Ma.out
                        go_wp2
                        repeat (go_quiet (fail); try go_wp2)
                        go_ret;exact ⟨by first|rfl|(simp [errW_none,errW_some] <;> rfl)|(simp [*,errW_none,errW_some] <;> rfl),by repeat (first|(with_reducible first|exact HB.out|apply below_alloc|apply pw_below_drewN|apply below_drew1|refine below_set ?_ Mb.out|refine below_set ?_ Ob.out)|exact HB.out)⟩
                       ·rw [if_neg c108] at H
                        have c108b0 : decide (((rd_T38 Ja x4_2).f1.f2) < 1) = false := decide_eq_false c108; clear c108
                        by_cases c111 : ((rd_T38 Ja x4_2).f1.f2) > 1000
                        ·rw [if_pos c111] at H
                         have c111b0:decide (1000 < ((rd_T38 Ja x4_2).f1.f2))=true:=decide_eq_true c111;clear c111;obtain rfl:=Option.some.inj H;(try have hnb112:=Jb.out);(try have hnc112:=Ua.out);obtain ⟨Xq1,Jr1,Kr1,Mr1,Or1,Ur1⟩:=cells3 Ma.out
                         go_wp2
                         repeat (go_quiet (fail); try go_wp2)
                         go_ret;exact ⟨by first|rfl|(simp [errW_none,errW_some] <;> rfl)|(simp [*,errW_none,errW_some] <;> rfl),by repeat (first|(with_reducible first|exact HB.out|apply below_alloc|apply pw_below_drewN|apply below_drew1|refine below_set ?_ Mb.out|refine below_set ?_ Ob.out)|exact HB.out)⟩
                        ·rw [if_neg c111] at H
                         have c111b0:decide (1000 < ((rd_T38 Ja x4_2).f1.f2))=false:=decide_eq_false c111;clear c111;have H':=Aside0.mk H;clear H;(try have hnb114:=Jb.out);(try have hnc114:=Ua.out);obtain ⟨Xr1,Js1,Ks1,Ms1,Os1,Us1⟩:=cells3 Ma.out
                         go_wp2
                         repeat (go_quiet (fail); try go_wp2)
                         go_roundg kj45
                         case measure => have := HJ1.out; have := HK2.out; have := HJ21.out; have := HK4.out; have := HJ34.out; have := HJ45.out; omega
                         case rel=>exact ⟨(wrap64 (x4_2 + 1)),Z28,H',⟨by have:=HJ1.out;have:=HK2.out;have:=HJ21.out;have:=HK4.out;have:=HJ34.out;have:=HJ45.out;omega⟩,⟨pR_ Xa.out⟩,⟨pk_ Ka.out⟩,⟨pB_ HB.out⟩⟩
               ·rw [if_neg c34] at H
                exact absurd H (by simp)
              ·rw [if_neg c33] at H
               exact absurd H (by simp)
       ·rw [if_neg c21] at H
        have c21b0 : decide (x4_2 < (Ja.length : Int)) = false := decide_eq_false c21; clear c21; obtain rfl := Option.some.inj H
        go_wp2
        repeat (go_quiet (fail); try go_wp2)
        go_ret;exact ⟨by first|rfl|(simp [errW_none,errW_some] <;> rfl)|(simp [*,errW_none,errW_some] <;> rfl),by repeat (first|(with_reducible first|exact HB.out|apply below_alloc|apply pw_below_drewN|apply below_drew1|refine below_set ?_ Mb.out)|exact HB.out)⟩

end Go.Proofs.Ytcdangcjbijfkab.PFnExactLinePut
