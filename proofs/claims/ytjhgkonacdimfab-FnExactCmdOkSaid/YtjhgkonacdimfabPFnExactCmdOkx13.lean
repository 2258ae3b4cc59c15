-- by a program of this session's, over the kit's words
import Derived.Test.YtjhgkonacdimfabPZFnExactCmdOk
import Derived.Test.YtjhgkonacdimfabPFnExactCmdOkx0
import Derived.Test.YtjhgkonacdimfabPFnExactCmdOkx8
import Derived.Test.YtjhgkonacdimfabPFnExactCmdOkx10
import Derived.Test.YtjhgkonacdimfabPFnExactCmdOkx12
namespace Go.Proofs.Ytjhgkonacdimfab.PFnExactCmdOk
open Go.RowKit Go.Proofs.YtjhgkonacdimfabW.PrintWords Go.Proofs.YtjhgkonacdimfabW.PrintLast Go.Proofs.YtjhgkonacdimfabW.PrintMore Go.Proofs.YtjhgkonacdimfabV Go.Proofs.Ytjhgkonacdimfab.ZFnExactCmdOk
open Go.Value renaming int → I, slice → Y
open Go.IntKind renaming i64 → L
open Aside0 renaming mk → D
open Option renaming bind_eq_some_iff → bs_
attribute [local go_sem] max2_int min2_int max_two min_two max_three min_three max_four min_four   -- for this text's walks alone
set_option linter.unusedVariables false
set_option linter.unusedSimpArgs false

/-! ### spec_ModuleOk: function 29 -/
mutual
def spec_ModuleOk.j0 : Nat → Bool → Bool → Int → Int → Int → Int → Int → Int → Int → Int → Int → Int → Int → Int → Int → Int → Int → Int → Int → Option (Bool)
 | 0, _, _, _, _, _, _, _, _, _, _, _, _, _, _, _, _, _, _, _ => none
 | k + 1,x3,x4,x204000,x204001,x204002,x204003,x204004,x204005,x204006,x204007,x204008,x204009,x204010,x204011,x204012,x204013,x204014,x204015,x204016=>if x204000=5 then (spec_ModuleOk.j1 k x3 x4 true x204000 x204001 x204002 x204003 x204004 x204005 x204006 x204007 x204008 x204009 x204010 x204011 x204012 x204013 x204014 x204015 x204016) else (spec_ModuleOk.j1 k x3 x4 (x204000 == 7) x204000 x204001 x204002 x204003 x204004 x204005 x204006 x204007 x204008 x204009 x204010 x204011 x204012 x204013 x204014 x204015 x204016)
def spec_ModuleOk.j1 : Nat → Bool → Bool → Bool → Int → Int → Int → Int → Int → Int → Int → Int → Int → Int → Int → Int → Int → Int → Int → Int → Int → Option (Bool)
 | 0, _, _, _, _, _, _, _, _, _, _, _, _, _, _, _, _, _, _, _, _ => none
 | k + 1,x3,x4,x5,x204000,x204001,x204002,x204003,x204004,x204005,x204006,x204007,x204008,x204009,x204010,x204011,x204012,x204013,x204014,x204015,x204016=>if x204000 < 1 then (spec_ModuleOk.j2 k x3 x4 x5 true x204000 x204001 x204002 x204003 x204004 x204005 x204006 x204007 x204008 x204009 x204010 x204011 x204012 x204013 x204014 x204015 x204016) else (spec_ModuleOk.j2 k x3 x4 x5 (decide (x204000 > 7)) x204000 x204001 x204002 x204003 x204004 x204005 x204006 x204007 x204008 x204009 x204010 x204011 x204012 x204013 x204014 x204015 x204016)
def spec_ModuleOk.j2 : Nat → Bool → Bool → Bool → Bool → Int → Int → Int → Int → Int → Int → Int → Int → Int → Int → Int → Int → Int → Int → Int → Int → Int → Option (Bool)
 | 0, _, _, _, _, _, _, _, _, _, _, _, _, _, _, _, _, _, _, _, _, _ => none
 | k + 1,x3,x4,x5,x32,x204000,x204001,x204002,x204003,x204004,x204005,x204006,x204007,x204008,x204009,x204010,x204011,x204012,x204013,x204014,x204015,x204016=>if x32=true then (some false) else (if x3=true then (if x5=true then (spec_ModuleOk.j3 k false x204000 x204001 x204002 x204003 x204004 x204005 x204006 x204007 x204008 x204009 x204010 x204011 x204012 x204013 x204014 x204015 x204016) else (if x204016=0 then (spec_ModuleOk.j3 k false x204000 x204001 x204002 x204003 x204004 x204005 x204006 x204007 x204008 x204009 x204010 x204011 x204012 x204013 x204014 x204015 x204016) else (spec_ModuleOk.j3 k true x204000 x204001 x204002 x204003 x204004 x204005 x204006 x204007 x204008 x204009 x204010 x204011 x204012 x204013 x204014 x204015 x204016))) else (if x204013=0 then (if x204014=0 then (if x204015=0 then (if x5=true then (if x4=true then (spec_ModuleOk.j3 k false x204000 x204001 x204002 x204003 x204004 x204005 x204006 x204007 x204008 x204009 x204010 x204011 x204012 x204013 x204014 x204015 x204016) else ((spec_l03Any.f x204001 x204002 x204003 x204004 x204005 x204006).bind fun t204=>(if t204=true then ((spec_l03Any.f x204007 x204008 x204009 x204010 x204011 x204012).bind fun t205=>(spec_ModuleOk.j3 k (!t205) x204000 x204001 x204002 x204003 x204004 x204005 x204006 x204007 x204008 x204009 x204010 x204011 x204012 x204013 x204014 x204015 x204016)) else (spec_ModuleOk.j3 k true x204000 x204001 x204002 x204003 x204004 x204005 x204006 x204007 x204008 x204009 x204010 x204011 x204012 x204013 x204014 x204015 x204016)))) else (if x204016=0 then (if x4=true then (spec_ModuleOk.j3 k false x204000 x204001 x204002 x204003 x204004 x204005 x204006 x204007 x204008 x204009 x204010 x204011 x204012 x204013 x204014 x204015 x204016) else ((spec_l03Any.f x204001 x204002 x204003 x204004 x204005 x204006).bind fun t206=>(if t206=true then ((spec_l03Any.f x204007 x204008 x204009 x204010 x204011 x204012).bind fun t207=>(spec_ModuleOk.j3 k (!t207) x204000 x204001 x204002 x204003 x204004 x204005 x204006 x204007 x204008 x204009 x204010 x204011 x204012 x204013 x204014 x204015 x204016)) else (spec_ModuleOk.j3 k true x204000 x204001 x204002 x204003 x204004 x204005 x204006 x204007 x204008 x204009 x204010 x204011 x204012 x204013 x204014 x204015 x204016)))) else (spec_ModuleOk.j3 k true x204000 x204001 x204002 x204003 x204004 x204005 x204006 x204007 x204008 x204009 x204010 x204011 x204012 x204013 x204014 x204015 x204016))) else (spec_ModuleOk.j3 k true x204000 x204001 x204002 x204003 x204004 x204005 x204006 x204007 x204008 x204009 x204010 x204011 x204012 x204013 x204014 x204015 x204016)) else (spec_ModuleOk.j3 k true x204000 x204001 x204002 x204003 x204004 x204005 x204006 x204007 x204008 x204009 x204010 x204011 x204012 x204013 x204014 x204015 x204016)) else (spec_ModuleOk.j3 k true x204000 x204001 x204002 x204003 x204004 x204005 x204006 x204007 x204008 x204009 x204010 x204011 x204012 x204013 x204014 x204015 x204016)))
def spec_ModuleOk.j3 : Nat → Bool → Int → Int → Int → Int → Int → Int → Int → Int → Int → Int → Int → Int → Int → Int → Int → Int → Int → Option (Bool)
 | 0, _, _, _, _, _, _, _, _, _, _, _, _, _, _, _, _, _, _ => none
 | k + 1,x78,x204000,x204001,x204002,x204003,x204004,x204005,x204006,x204007,x204008,x204009,x204010,x204011,x204012,x204013,x204014,x204015,x204016=>if x78=true then (some false) else (if x204000=1 then ((spec_PrefixOk.f k x204001 x204002 x204003 x204004 x204005 x204006).bind fun t208=>(if t208=true then ((spec_PrefixOk.f k x204007 x204008 x204009 x204010 x204011 x204012).bind fun t209=>(if t209=true then (if x204013 ≥ (-1) then (if x204013≤255 then ((spec_l09Range.f x204014 x204015).bind fun t210=>(some t210)) else (some false)) else (some false)) else (some false))) else (some false))) else (if x204000=2 then (spec_ModuleOk.j4 k x204000 (x204000 == 2) x204000 x204001 x204002 x204003 x204004 x204005 x204006 x204007 x204008 x204009 x204010 x204011 x204012 x204013 x204014 x204015 x204016) else (spec_ModuleOk.j4 k x204000 (x204000 == 3) x204000 x204001 x204002 x204003 x204004 x204005 x204006 x204007 x204008 x204009 x204010 x204011 x204012 x204013 x204014 x204015 x204016)))
def spec_ModuleOk.j4 : Nat → Int → Bool → Int → Int → Int → Int → Int → Int → Int → Int → Int → Int → Int → Int → Int → Int → Int → Int → Int → Option (Bool)
 | 0, _, _, _, _, _, _, _, _, _, _, _, _, _, _, _, _, _, _, _ => none
 | k + 1,x80,x108,x204000,x204001,x204002,x204003,x204004,x204005,x204006,x204007,x204008,x204009,x204010,x204011,x204012,x204013,x204014,x204015,x204016=>if x108=true then ((spec_l10Twins.f k x204001 x204002 x204003 x204004 x204005 x204006 x204007 x204008 x204009 x204010 x204011 x204012).bind fun t211=>(some t211)) else (if x80=5 then ((spec_l05In.f x204016 63).bind fun t212=>(some t212)) else (if x80=7 then (if x204016 ≥ 1 then (some (decide (x204016≤4))) else (some false)) else (some true)))
end
def spec_ModuleOk.f (k : Nat) (a0_0 a0_1 a0_2 a0_3 a0_4 a0_5 a0_6 a0_7 a0_8 a0_9 a0_10 a0_11 a0_12 a0_13 a0_14 a0_15 a0_16 : Int) : Option (Bool) := if a0_0 = 2 then (spec_ModuleOk.j0 k (a0_0 == 1) true a0_0 a0_1 a0_2 a0_3 a0_4 a0_5 a0_6 a0_7 a0_8 a0_9 a0_10 a0_11 a0_12 a0_13 a0_14 a0_15 a0_16) else (spec_ModuleOk.j0 k (a0_0 == 1) (a0_0 == 3) a0_0 a0_1 a0_2 a0_3 a0_4 a0_5 a0_6 a0_7 a0_8 a0_9 a0_10 a0_11 a0_12 a0_13 a0_14 a0_15 a0_16)
set_option maxHeartbeats 8000000 in
set_option maxRecDepth 100000 in
theorem spec_ModuleOk.calls (k : Nat) (a0_0 a0_1 a0_2 a0_3 a0_4 a0_5 a0_6 a0_7 a0_8 a0_9 a0_10 a0_11 a0_12 a0_13 a0_14 a0_15 a0_16 : Int) (r : Bool) (w : World) (h : spec_ModuleOk.f k a0_0 a0_1 a0_2 a0_3 a0_4 a0_5 a0_6 a0_7 a0_8 a0_9 a0_10 a0_11 a0_12 a0_13 a0_14 a0_15 a0_16 = some r) :
  Calls Try.prog 29 #[.agg #[I L a0_0,I L a0_1,I L a0_2,I L a0_3,I L a0_4,I L a0_5,I L a0_6,I L a0_7,I L a0_8,I L a0_9,I L a0_10,I L a0_11,I L a0_12,I L a0_13,I L a0_14,I L a0_15,I L a0_16]] w fun e w'=>e=.returned (.bool r)∧Below w.heap.size w w':=by
 have hu65 := Try.underlying65
 have hu37 := Try.underlying37
 have HB := D (Below.refl w.heap.size w)
 have H:(if a0_0=2 then (spec_ModuleOk.j0 k (a0_0 == 1) true a0_0 a0_1 a0_2 a0_3 a0_4 a0_5 a0_6 a0_7 a0_8 a0_9 a0_10 a0_11 a0_12 a0_13 a0_14 a0_15 a0_16) else (spec_ModuleOk.j0 k (a0_0 == 1) (a0_0 == 3) a0_0 a0_1 a0_2 a0_3 a0_4 a0_5 a0_6 a0_7 a0_8 a0_9 a0_10 a0_11 a0_12 a0_13 a0_14 a0_15 a0_16))=some r:=h
 clear h
 have HC2 := D H
 clear H
 go_enter Try.func29, Try.ntmps29
 go_upto_region 2 with (first|((with_reducible refine gld_ 37 rfl ?_);(first|refine la37o1_ ?_|refine la37o7_ ?_))|((with_reducible refine gld_ 3 rfl ?_);refine lc3_ ?_)|((with_reducible refine gst_ 27 rfl ?_);refine sa27_ ?_)|((with_reducible refine gld_ 27 rfl ?_);refine la27_ ?_)|((with_reducible refine gst_ 39 rfl ?_);refine sa39_ ?_)|((with_reducible refine gld_ 39 rfl ?_);refine la39_ ?_)|((with_reducible refine gst_ 65 rfl ?_);refine sa65_ ?_)|((with_reducible refine gld_ 65 rfl ?_);refine la65_ ?_)|((with_reducible refine gate_dst (N:=1) rfl ?_);refine bx_ (N:=1) (cs:=#[I L a0_0,I L a0_1,I L a0_2,I L a0_3,I L a0_4,I L a0_5,I L a0_6,I L a0_7,I L a0_8,I L a0_9,I L a0_10,I L a0_11,I L a0_12,I L a0_13,I L a0_14,I L a0_15,I L a0_16]) (t:=65) ?_;intro Ka hg w3 hbox hb;have n_:=an_ (below_step (pB_ HB.out) hb)<|an_ (hbox)<|an_ (bg_ hg (pB_ HB.out):w.heap.size≤Ka)<|D (bg_ hg (pB_ HB.out):w.heap.size≤Ka);clear HB;obtain ⟨HB,Ja,Km8,Mm8⟩:=n_;clear hb hbox hg))
 (try simp only [Act.put, List.setIfInBounds_toArray, List.set_cons_zero, List.set_cons_succ])
 go_cut [4] (fun v4 wc=>∃ (kq:Nat) (x4_1:Bool),v4=.bool x4_1∧Aside0 (spec_ModuleOk.j0 kq (a0_0 == 1) x4_1 a0_0 a0_1 a0_2 a0_3 a0_4 a0_5 a0_6 a0_7 a0_8 a0_9 a0_10 a0_11 a0_12 a0_13 a0_14 a0_15 a0_16=some r)∧Aside0 (kq≤k)∧Aside0 (wc.heap[Ka]?=some (.cells #[I L a0_0,I L a0_1,I L a0_2,I L a0_3,I L a0_4,I L a0_5,I L a0_6,I L a0_7,I L a0_8,I L a0_9,I L a0_10,I L a0_11,I L a0_12,I L a0_13,I L a0_14,I L a0_15,I L a0_16] 65 (0,0)))∧Aside0 (Below w.heap.size w wc))
 case first =>
  have H := HC2.out; clear HC2
  by_cases c5 : a0_0 = 2
  ·rw [if_pos c5] at H
   have c5b0:(a0_0 == 2)=true:=beq_iff_eq.mpr c5;have c5b1:(a0_0 != 2)=false:=bne_eq_false_iff_eq.mpr c5;clear c5;refine rw_ c5b0 ?_;have H':=D H;clear H
   go_wp2_with (first|((with_reducible refine gld_ 37 rfl ?_);(first|refine la37o1_ ?_|refine la37o7_ ?_))|((with_reducible refine gld_ 3 rfl ?_);refine lc3_ ?_)|((with_reducible refine gst_ 27 rfl ?_);refine sa27_ ?_)|((with_reducible refine gld_ 27 rfl ?_);refine la27_ ?_)|((with_reducible refine gst_ 39 rfl ?_);refine sa39_ ?_)|((with_reducible refine gld_ 39 rfl ?_);refine la39_ ?_)|((with_reducible refine gst_ 65 rfl ?_);refine sa65_ ?_)|((with_reducible refine gld_ 65 rfl ?_);refine la65_ ?_))
   go_meet
   case rel => exact ⟨_, (true), Z11, H', ⟨by first | omega | exact Nat.le_refl _⟩, ⟨pk_ Ja.out⟩, ⟨pB_ HB.out⟩⟩
  ·rw [if_neg c5] at H
   have c5b0:(a0_0 == 2)=false:=beq_eq_false_iff_ne.mpr c5;have c5b1:(a0_0 != 2)=true:=bne_iff_ne.mpr c5;refine rw_ c5b0 ?_;have H':=D H;clear H
   go_wp2_with (first|((with_reducible refine gld_ 37 rfl ?_);(first|refine la37o1_ ?_|refine la37o7_ ?_))|((with_reducible refine gld_ 3 rfl ?_);refine lc3_ ?_)|((with_reducible refine gst_ 27 rfl ?_);refine sa27_ ?_)|((with_reducible refine gld_ 27 rfl ?_);refine la27_ ?_)|((with_reducible refine gst_ 39 rfl ?_);refine sa39_ ?_)|((with_reducible refine gld_ 39 rfl ?_);refine la39_ ?_)|((with_reducible refine gst_ 65 rfl ?_);refine sa65_ ?_)|((with_reducible refine gld_ 65 rfl ?_);refine la65_ ?_))
   go_meet
   case rel => exact ⟨_, ((a0_0 == 3)), Z11, H', ⟨by first | omega | exact Nat.le_refl _⟩, ⟨pk_ Ja.out⟩, ⟨pB_ HB.out⟩⟩
 case rest =>
  clear HC2
  (try clear c2);(try clear p2);(try clear c5);(try clear c5b0);(try clear c5b1);skip;skip;skip
  obtain ⟨kq, x4_1, rfl, HA, HJ1, Ja, HB⟩ := hcut
  cases kq with
  | zero => exact absurd HA.out (by simp [spec_ModuleOk.j0])
  | succ kj1 =>
   have H := HA.out; clear HA; simp only [spec_ModuleOk.j0] at H; have HC8 := D H; clear H
   go_upto_region 3 with (first|((with_reducible refine gld_ 37 rfl ?_);(first|refine la37o1_ ?_|refine la37o7_ ?_))|((with_reducible refine gld_ 3 rfl ?_);refine lc3_ ?_)|((with_reducible refine gst_ 27 rfl ?_);refine sa27_ ?_)|((with_reducible refine gld_ 27 rfl ?_);refine la27_ ?_)|((with_reducible refine gst_ 39 rfl ?_);refine sa39_ ?_)|((with_reducible refine gld_ 39 rfl ?_);refine la39_ ?_)|((with_reducible refine gst_ 65 rfl ?_);refine sa65_ ?_)|((with_reducible refine gld_ 65 rfl ?_);refine la65_ ?_))
   go_cut [5] (fun v5 wc=>∃ (kq:Nat) (x5_7:Bool),v5=.bool x5_7∧Aside0 (spec_ModuleOk.j1 kq (a0_0 == 1) x4_1 x5_7 a0_0 a0_1 a0_2 a0_3 a0_4 a0_5 a0_6 a0_7 a0_8 a0_9 a0_10 a0_11 a0_12 a0_13 a0_14 a0_15 a0_16=some r)∧Aside0 (kq≤kj1)∧Aside0 (wc.heap[Ka]?=some (.cells #[I L a0_0,I L a0_1,I L a0_2,I L a0_3,I L a0_4,I L a0_5,I L a0_6,I L a0_7,I L a0_8,I L a0_9,I L a0_10,I L a0_11,I L a0_12,I L a0_13,I L a0_14,I L a0_15,I L a0_16] 65 (0,0)))∧Aside0 (Below w.heap.size w wc))
   case first =>
    have H := HC8.out; clear HC8
    by_cases c9 : a0_0 = 5
    ·rw [if_pos c9] at H
     have c9b0:(a0_0 == 5)=true:=beq_iff_eq.mpr c9;have c9b1:(a0_0 != 5)=false:=bne_eq_false_iff_eq.mpr c9;clear c9;refine rw_ c9b0 ?_;have H':=D H;clear H
     go_wp2_with (first|((with_reducible refine gld_ 37 rfl ?_);(first|refine la37o1_ ?_|refine la37o7_ ?_))|((with_reducible refine gld_ 3 rfl ?_);refine lc3_ ?_)|((with_reducible refine gst_ 27 rfl ?_);refine sa27_ ?_)|((with_reducible refine gld_ 27 rfl ?_);refine la27_ ?_)|((with_reducible refine gst_ 39 rfl ?_);refine sa39_ ?_)|((with_reducible refine gld_ 39 rfl ?_);refine la39_ ?_)|((with_reducible refine gst_ 65 rfl ?_);refine sa65_ ?_)|((with_reducible refine gld_ 65 rfl ?_);refine la65_ ?_))
     go_meet
     case rel => exact ⟨_, (true), Z11, H', ⟨by have := HJ1.out; first | omega | exact Nat.le_refl _⟩, ⟨pk_ Ja.out⟩, ⟨pB_ HB.out⟩⟩
    ·rw [if_neg c9] at H
     have c9b0:(a0_0 == 5)=false:=beq_eq_false_iff_ne.mpr c9;have c9b1:(a0_0 != 5)=true:=bne_iff_ne.mpr c9;refine rw_ c9b0 ?_;have H':=D H;clear H
     go_wp2_with (first|((with_reducible refine gld_ 37 rfl ?_);(first|refine la37o1_ ?_|refine la37o7_ ?_))|((with_reducible refine gld_ 3 rfl ?_);refine lc3_ ?_)|((with_reducible refine gst_ 27 rfl ?_);refine sa27_ ?_)|((with_reducible refine gld_ 27 rfl ?_);refine la27_ ?_)|((with_reducible refine gst_ 39 rfl ?_);refine sa39_ ?_)|((with_reducible refine gld_ 39 rfl ?_);refine la39_ ?_)|((with_reducible refine gst_ 65 rfl ?_);refine sa65_ ?_)|((with_reducible refine gld_ 65 rfl ?_);refine la65_ ?_))
     go_meet
     case rel => exact ⟨_, ((a0_0 == 7)), Z11, H', ⟨by have := HJ1.out; first | omega | exact Nat.le_refl _⟩, ⟨pk_ Ja.out⟩, ⟨pB_ HB.out⟩⟩
   case rest =>
    clear HC8
    (try clear c2);(try clear p2);(try clear c5);(try clear c5b0);(try clear c5b1);(try clear c9);(try clear c9b0);(try clear c9b1);skip;skip;skip;skip;skip;(try clear p2)
    obtain ⟨kq, x5_7, rfl, HA, HJ7, Ja, HB⟩ := hcut
    cases kq with
    | zero => exact absurd HA.out (by simp [spec_ModuleOk.j1])
    | succ kj7 =>
     have H := HA.out; clear HA; simp only [spec_ModuleOk.j1] at H; have HC12 := D H; clear H
     go_upto_region 4 with (first|((with_reducible refine gld_ 37 rfl ?_);(first|refine la37o1_ ?_|refine la37o7_ ?_))|((with_reducible refine gld_ 3 rfl ?_);refine lc3_ ?_)|((with_reducible refine gst_ 27 rfl ?_);refine sa27_ ?_)|((with_reducible refine gld_ 27 rfl ?_);refine la27_ ?_)|((with_reducible refine gst_ 39 rfl ?_);refine sa39_ ?_)|((with_reducible refine gld_ 39 rfl ?_);refine la39_ ?_)|((with_reducible refine gst_ 65 rfl ?_);refine sa65_ ?_)|((with_reducible refine gld_ 65 rfl ?_);refine la65_ ?_))
     go_cut [32] (fun v32 wc=>∃ (kq:Nat) (Ma:Bool),v32=.bool Ma∧Aside0 (spec_ModuleOk.j2 kq (a0_0 == 1) x4_1 x5_7 Ma a0_0 a0_1 a0_2 a0_3 a0_4 a0_5 a0_6 a0_7 a0_8 a0_9 a0_10 a0_11 a0_12 a0_13 a0_14 a0_15 a0_16=some r)∧Aside0 (kq≤kj7)∧Aside0 (wc.heap[Ka]?=some (.cells #[I L a0_0,I L a0_1,I L a0_2,I L a0_3,I L a0_4,I L a0_5,I L a0_6,I L a0_7,I L a0_8,I L a0_9,I L a0_10,I L a0_11,I L a0_12,I L a0_13,I L a0_14,I L a0_15,I L a0_16] 65 (0,0)))∧Aside0 (Below w.heap.size w wc))
     case first =>
      have H := HC12.out; clear HC12
      by_cases c13 : a0_0 < 1
      ·rw [if_pos c13] at H
       have c13b0:decide (a0_0 < 1)=true:=decide_eq_true c13;clear c13;refine rw_ c13b0 ?_;have H':=D H;clear H
       go_wp2_with (first|((with_reducible refine gld_ 37 rfl ?_);(first|refine la37o1_ ?_|refine la37o7_ ?_))|((with_reducible refine gld_ 3 rfl ?_);refine lc3_ ?_)|((with_reducible refine gst_ 27 rfl ?_);refine sa27_ ?_)|((with_reducible refine gld_ 27 rfl ?_);refine la27_ ?_)|((with_reducible refine gst_ 39 rfl ?_);refine sa39_ ?_)|((with_reducible refine gld_ 39 rfl ?_);refine la39_ ?_)|((with_reducible refine gst_ 65 rfl ?_);refine sa65_ ?_)|((with_reducible refine gld_ 65 rfl ?_);refine la65_ ?_))
       go_meet
       case rel => exact ⟨_, (true), Z11, H', ⟨by have := HJ1.out; have := HJ7.out; first | omega | exact Nat.le_refl _⟩, ⟨pk_ Ja.out⟩, ⟨pB_ HB.out⟩⟩
      ·rw [if_neg c13] at H
       have c13b0:decide (a0_0 < 1)=false:=decide_eq_false c13;clear c13;refine rw_ c13b0 ?_;have H':=D H;clear H
       go_wp2_with (first|((with_reducible refine gld_ 37 rfl ?_);(first|refine la37o1_ ?_|refine la37o7_ ?_))|((with_reducible refine gld_ 3 rfl ?_);refine lc3_ ?_)|((with_reducible refine gst_ 27 rfl ?_);refine sa27_ ?_)|((with_reducible refine gld_ 27 rfl ?_);refine la27_ ?_)|((with_reducible refine gst_ 39 rfl ?_);refine sa39_ ?_)|((with_reducible refine gld_ 39 rfl ?_);refine la39_ ?_)|((with_reducible refine gst_ 65 rfl ?_);refine sa65_ ?_)|((with_reducible refine gld_ 65 rfl ?_);refine la65_ ?_))
       go_meet
       case rel => exact ⟨_, (decide (a0_0 > 7)), Z11, H', ⟨by have := HJ1.out; have := HJ7.out; first | omega | exact Nat.le_refl _⟩, ⟨pk_ Ja.out⟩, ⟨pB_ HB.out⟩⟩
     case rest =>
      clear HC12
      (try clear c1);(try clear c2);(try clear p2);(try clear c5);(try clear c5b0);(try clear c5b1);(try clear c9);(try clear c9b0);(try clear c9b1);(try clear c13);(try clear c13b0);skip;skip;skip;skip;skip;skip;skip;(try clear p2)
      obtain ⟨kq, Ma, rfl, HA, HJ11, Ja, HB⟩ := hcut
      cases kq with
      | zero => exact absurd HA.out (by simp [spec_ModuleOk.j2])
      | succ kj11 =>
       have H := HA.out; clear HA; simp only [spec_ModuleOk.j2] at H
       by_cases c16 : Ma = true
       ·subst c16
        rw [if_pos rfl] at H; obtain rfl := Option.some.inj H
        go_wp2_with (first|((with_reducible refine gld_ 37 rfl ?_);(first|refine la37o1_ ?_|refine la37o7_ ?_))|((with_reducible refine gld_ 3 rfl ?_);refine lc3_ ?_)|((with_reducible refine gst_ 27 rfl ?_);refine sa27_ ?_)|((with_reducible refine gld_ 27 rfl ?_);refine la27_ ?_)|((with_reducible refine gst_ 39 rfl ?_);refine sa39_ ?_)|((with_reducible refine gld_ 39 rfl ?_);refine la39_ ?_)|((with_reducible refine gst_ 65 rfl ?_);refine sa65_ ?_)|((with_reducible refine gld_ 65 rfl ?_);refine la65_ ?_))
        go_ret; exact ⟨er_, pB_ HB.out⟩
       ·replace c16 := Bool.eq_false_iff.mpr c16
        subst c16; rw [if_neg (show ¬ (false = true) by decide)] at H; have HC17 := D H; clear H
        go_upto_region 6 with (first|((with_reducible refine gld_ 37 rfl ?_);(first|refine la37o1_ ?_|refine la37o7_ ?_))|((with_reducible refine gld_ 3 rfl ?_);refine lc3_ ?_)|((with_reducible refine gst_ 27 rfl ?_);refine sa27_ ?_)|((with_reducible refine gld_ 27 rfl ?_);refine la27_ ?_)|((with_reducible refine gst_ 39 rfl ?_);refine sa39_ ?_)|((with_reducible refine gld_ 39 rfl ?_);refine la39_ ?_)|((with_reducible refine gst_ 65 rfl ?_);refine sa65_ ?_)|((with_reducible refine gld_ 65 rfl ?_);refine la65_ ?_))
        go_cut [3,78] (fun v3 v78 wc=>∃ (kq:Nat) (Oa:Bool),v3=.bool (a0_0 == 1)∧v78=.bool Oa∧Aside0 (spec_ModuleOk.j3 kq Oa a0_0 a0_1 a0_2 a0_3 a0_4 a0_5 a0_6 a0_7 a0_8 a0_9 a0_10 a0_11 a0_12 a0_13 a0_14 a0_15 a0_16=some r)∧Aside0 (kq≤kj11)∧Aside0 (wc.heap[Ka]?=some (.cells #[I L a0_0,I L a0_1,I L a0_2,I L a0_3,I L a0_4,I L a0_5,I L a0_6,I L a0_7,I L a0_8,I L a0_9,I L a0_10,I L a0_11,I L a0_12,I L a0_13,I L a0_14,I L a0_15,I L a0_16] 65 (0,0)))∧Aside0 (Below w.heap.size w wc))
        case first =>
         have H := HC17.out; clear HC17
         by_cases c18 : (a0_0 == 1) = true
         ·rw [if_pos c18] at H
          have c18b0:(a0_0 == 1)=true:=c18;(try (have c18b1:decide (a0_0=1)=true:=by simpa using c18));(try (have c18b2:(a0_0 == 1)=true:=by simpa using c18));clear c18;refine rw_ c18b0 ?_
          by_cases c19 : x5_7 = true
          ·subst c19
           rw [if_pos rfl] at H; have H' := D H; clear H
           go_wp2_with (first|((with_reducible refine gld_ 37 rfl ?_);(first|refine la37o1_ ?_|refine la37o7_ ?_))|((with_reducible refine gld_ 3 rfl ?_);refine lc3_ ?_)|((with_reducible refine gst_ 27 rfl ?_);refine sa27_ ?_)|((with_reducible refine gld_ 27 rfl ?_);refine la27_ ?_)|((with_reducible refine gst_ 39 rfl ?_);refine sa39_ ?_)|((with_reducible refine gld_ 39 rfl ?_);refine la39_ ?_)|((with_reducible refine gst_ 65 rfl ?_);refine sa65_ ?_)|((with_reducible refine gld_ 65 rfl ?_);refine la65_ ?_))
           go_meet
           case rel => exact ⟨_, (false), (by first|rfl|rw [show (a0_0 == 1)=true by assumption]|rw [show (a0_0 == 1)=false by assumption]),Z11, H', ⟨by have := HJ1.out; have := HJ7.out; have := HJ11.out; first | omega | exact Nat.le_refl _⟩, ⟨pk_ Ja.out⟩, ⟨pB_ HB.out⟩⟩
          ·replace c19 := Bool.eq_false_iff.mpr c19
           subst c19; rw [if_neg (show ¬ (false = true) by decide)] at H
           by_cases c20 : a0_16 = 0
           ·rw [if_pos c20] at H
            have c20b0:(a0_16 == 0)=true:=beq_iff_eq.mpr c20;have c20b1:(a0_16 != 0)=false:=bne_eq_false_iff_eq.mpr c20;clear c20;have H':=D H;clear H
            go_wp2_with (first|((with_reducible refine gld_ 37 rfl ?_);(first|refine la37o1_ ?_|refine la37o7_ ?_))|((with_reducible refine gld_ 3 rfl ?_);refine lc3_ ?_)|((with_reducible refine gst_ 27 rfl ?_);refine sa27_ ?_)|((with_reducible refine gld_ 27 rfl ?_);refine la27_ ?_)|((with_reducible refine gst_ 39 rfl ?_);refine sa39_ ?_)|((with_reducible refine gld_ 39 rfl ?_);refine la39_ ?_)|((with_reducible refine gst_ 65 rfl ?_);refine sa65_ ?_)|((with_reducible refine gld_ 65 rfl ?_);refine la65_ ?_))
            go_meet
            case rel => exact ⟨_, (false), (by first|rfl|rw [show (a0_0 == 1)=true by assumption]|rw [show (a0_0 == 1)=false by assumption]),Z11, H', ⟨by have := HJ1.out; have := HJ7.out; have := HJ11.out; first | omega | exact Nat.le_refl _⟩, ⟨pk_ Ja.out⟩, ⟨pB_ HB.out⟩⟩
           ·rw [if_neg c20] at H
            have c20b0:(a0_16 == 0)=false:=beq_eq_false_iff_ne.mpr c20;have c20b1:(a0_16 != 0)=true:=bne_iff_ne.mpr c20;have H':=D H;clear H
            go_wp2_with (first|((with_reducible refine gld_ 37 rfl ?_);(first|refine la37o1_ ?_|refine la37o7_ ?_))|((with_reducible refine gld_ 3 rfl ?_);refine lc3_ ?_)|((with_reducible refine gst_ 27 rfl ?_);refine sa27_ ?_)|((with_reducible refine gld_ 27 rfl ?_);refine la27_ ?_)|((with_reducible refine gst_ 39 rfl ?_);refine sa39_ ?_)|((with_reducible refine gld_ 39 rfl ?_);refine la39_ ?_)|((with_reducible refine gst_ 65 rfl ?_);refine sa65_ ?_)|((with_reducible refine gld_ 65 rfl ?_);refine la65_ ?_))
            go_meet
            case rel => exact ⟨_, (true), (by first|rfl|rw [show (a0_0 == 1)=true by assumption]|rw [show (a0_0 == 1)=false by assumption]),Z11, H', ⟨by have := HJ1.out; have := HJ7.out; have := HJ11.out; first | omega | exact Nat.le_refl _⟩, ⟨pk_ Ja.out⟩, ⟨pB_ HB.out⟩⟩
         ·rw [if_neg c18] at H
          have c18b0 : (a0_0 == 1) = false := by simpa using c18
          (try (have c18b1:decide (a0_0=1)=false:=by simpa using c18));(try (have c18b2:(a0_0 == 1)=false:=by simpa using c18));(try (have c18b3:¬ (a0_0=1):=by simpa using c18));clear c18;refine rw_ c18b0 ?_
          by_cases c23 : a0_13 = 0
          ·rw [if_pos c23] at H
           have c23b0 : (a0_13 == 0) = true := beq_iff_eq.mpr c23; have c23b1 : (a0_13 != 0) = false := bne_eq_false_iff_eq.mpr c23; clear c23
           by_cases c24 : a0_14 = 0
           ·rw [if_pos c24] at H
            have c24b0 : (a0_14 == 0) = true := beq_iff_eq.mpr c24; have c24b1 : (a0_14 != 0) = false := bne_eq_false_iff_eq.mpr c24; clear c24
            by_cases c25 : a0_15 = 0
            ·rw [if_pos c25] at H
             have c25b0 : (a0_15 == 0) = true := beq_iff_eq.mpr c25; have c25b1 : (a0_15 != 0) = false := bne_eq_false_iff_eq.mpr c25; clear c25
             by_cases c26 : x5_7 = true
             ·subst c26
              rw [if_pos rfl] at H
              by_cases c27 : x4_1 = true
              ·subst c27
               rw [if_pos rfl] at H;have H':=D H;clear H
               go_wp2_with (first|((with_reducible refine gld_ 37 rfl ?_);(first|refine la37o1_ ?_|refine la37o7_ ?_))|((with_reducible refine gld_ 3 rfl ?_);refine lc3_ ?_)|((with_reducible refine gst_ 27 rfl ?_);refine sa27_ ?_)|((with_reducible refine gld_ 27 rfl ?_);refine la27_ ?_)|((with_reducible refine gst_ 39 rfl ?_);refine sa39_ ?_)|((with_reducible refine gld_ 39 rfl ?_);refine la39_ ?_)|((with_reducible refine gst_ 65 rfl ?_);refine sa65_ ?_)|((with_reducible refine gld_ 65 rfl ?_);refine la65_ ?_))
               go_meet
               case rel => exact ⟨_, (false), (by first|rfl|rw [show (a0_0 == 1)=true by assumption]|rw [show (a0_0 == 1)=false by assumption]),Z11, H', ⟨by have := HJ1.out; have := HJ7.out; have := HJ11.out; first | omega | exact Nat.le_refl _⟩, ⟨pk_ Ja.out⟩, ⟨pB_ HB.out⟩⟩
              ·replace c27 := Bool.eq_false_iff.mpr c27
               subst c27; rw [if_neg (show ¬ (false = true) by decide)] at H; obtain ⟨Kb4, A290, H⟩ := bs_.mp H; (try dsimp only at H); have A29 := D A290; clear A290
               by_cases c30 : Kb4 = true
               ·subst c30
                rw [if_pos rfl] at H;obtain ⟨Up1,A310,H⟩:=bs_.mp H;(try dsimp only at H);have A31:=D A310;clear A310;have H':=D H;clear H
                go_wp2_with (first|((with_reducible refine gld_ 37 rfl ?_);(first|refine la37o1_ ?_|refine la37o7_ ?_))|((with_reducible refine gld_ 3 rfl ?_);refine lc3_ ?_)|((with_reducible refine gst_ 27 rfl ?_);refine sa27_ ?_)|((with_reducible refine gld_ 27 rfl ?_);refine la27_ ?_)|((with_reducible refine gst_ 39 rfl ?_);refine sa39_ ?_)|((with_reducible refine gld_ 39 rfl ?_);refine la39_ ?_)|((with_reducible refine gst_ 65 rfl ?_);refine sa65_ ?_)|((with_reducible refine gld_ 65 rfl ?_);refine la65_ ?_)|(go_at_call 41;(with_reducible refine (spec_l03Any.calls a0_1 a0_2 a0_3 a0_4 a0_5 a0_6 true _ A29.out).mono ?_);rintro e w33 ⟨rfl,hb⟩;have n_:=an_ (blk_below (pk_ Ja.out) hb)<|D (below_step (pB_ HB.out) hb);clear Ja HB;obtain ⟨Ja,HB⟩:=n_;(try clear hb))|(go_at_call 41;(with_reducible refine (spec_l03Any.calls a0_7 a0_8 a0_9 a0_10 a0_11 a0_12 Up1 _ A31.out).mono ?_);rintro e w35 ⟨rfl,hb⟩;have n_:=an_ (blk_below (pk_ Ja.out) hb)<|D (below_step (pB_ HB.out) hb);clear Ja HB;obtain ⟨Ja,HB⟩:=n_;(try clear hb)))
                go_meet
                case rel => exact ⟨_, (!Up1), (by first|rfl|rw [show (a0_0 == 1)=true by assumption]|rw [show (a0_0 == 1)=false by assumption]),Z11, H', ⟨by have := HJ1.out; have := HJ7.out; have := HJ11.out; first | omega | exact Nat.le_refl _⟩, ⟨pk_ Ja.out⟩, ⟨pB_ HB.out⟩⟩
               ·replace c30 := Bool.eq_false_iff.mpr c30
                subst c30;rw [if_neg (show ¬ (false=true) by decide)] at H;have H':=D H;clear H
                go_wp2_with (first|((with_reducible refine gld_ 37 rfl ?_);(first|refine la37o1_ ?_|refine la37o7_ ?_))|((with_reducible refine gld_ 3 rfl ?_);refine lc3_ ?_)|((with_reducible refine gst_ 27 rfl ?_);refine sa27_ ?_)|((with_reducible refine gld_ 27 rfl ?_);refine la27_ ?_)|((with_reducible refine gst_ 39 rfl ?_);refine sa39_ ?_)|((with_reducible refine gld_ 39 rfl ?_);refine la39_ ?_)|((with_reducible refine gst_ 65 rfl ?_);refine sa65_ ?_)|((with_reducible refine gld_ 65 rfl ?_);refine la65_ ?_)|(go_at_call 41;(with_reducible refine (spec_l03Any.calls a0_1 a0_2 a0_3 a0_4 a0_5 a0_6 false _ A29.out).mono ?_);rintro e w37 ⟨rfl,hb⟩;have n_:=an_ (blk_below (pk_ Ja.out) hb)<|D (below_step (pB_ HB.out) hb);clear Ja HB;obtain ⟨Ja,HB⟩:=n_;(try clear hb)))
                go_meet
                case rel => exact ⟨_, (true), (by first|rfl|rw [show (a0_0 == 1)=true by assumption]|rw [show (a0_0 == 1)=false by assumption]),Z11, H', ⟨by have := HJ1.out; have := HJ7.out; have := HJ11.out; first | omega | exact Nat.le_refl _⟩, ⟨pk_ Ja.out⟩, ⟨pB_ HB.out⟩⟩
             ·replace c26 := Bool.eq_false_iff.mpr c26
              subst c26; rw [if_neg (show ¬ (false = true) by decide)] at H
              by_cases c38 : a0_16 = 0
              ·rw [if_pos c38] at H
               have c38b0 : (a0_16 == 0) = true := beq_iff_eq.mpr c38; have c38b1 : (a0_16 != 0) = false := bne_eq_false_iff_eq.mpr c38; clear c38
               by_cases c39 : x4_1 = true
               ·subst c39
                rw [if_pos rfl] at H;have H':=D H;clear H
                go_wp2_with (first|((with_reducible refine gld_ 37 rfl ?_);(first|refine la37o1_ ?_|refine la37o7_ ?_))|((with_reducible refine gld_ 3 rfl ?_);refine lc3_ ?_)|((with_reducible refine gst_ 27 rfl ?_);refine sa27_ ?_)|((with_reducible refine gld_ 27 rfl ?_);refine la27_ ?_)|((with_reducible refine gst_ 39 rfl ?_);refine sa39_ ?_)|((with_reducible refine gld_ 39 rfl ?_);refine la39_ ?_)|((with_reducible refine gst_ 65 rfl ?_);refine sa65_ ?_)|((with_reducible refine gld_ 65 rfl ?_);refine la65_ ?_))
                go_meet
                case rel => exact ⟨_, (false), (by first|rfl|rw [show (a0_0 == 1)=true by assumption]|rw [show (a0_0 == 1)=false by assumption]),Z11, H', ⟨by have := HJ1.out; have := HJ7.out; have := HJ11.out; first | omega | exact Nat.le_refl _⟩, ⟨pk_ Ja.out⟩, ⟨pB_ HB.out⟩⟩
               ·replace c39 := Bool.eq_false_iff.mpr c39
                subst c39; rw [if_neg (show ¬ (false = true) by decide)] at H; obtain ⟨Un4, A410, H⟩ := bs_.mp H; (try dsimp only at H); have A41 := D A410; clear A410
                by_cases c42 : Un4 = true
                ·subst c42
                 rw [if_pos rfl] at H;obtain ⟨Kd2,A430,H⟩:=bs_.mp H;(try dsimp only at H);have A43:=D A430;clear A430;have H':=D H;clear H
                 go_wp2_with (first|((with_reducible refine gld_ 37 rfl ?_);(first|refine la37o1_ ?_|refine la37o7_ ?_))|((with_reducible refine gld_ 3 rfl ?_);refine lc3_ ?_)|((with_reducible refine gst_ 27 rfl ?_);refine sa27_ ?_)|((with_reducible refine gld_ 27 rfl ?_);refine la27_ ?_)|((with_reducible refine gst_ 39 rfl ?_);refine sa39_ ?_)|((with_reducible refine gld_ 39 rfl ?_);refine la39_ ?_)|((with_reducible refine gst_ 65 rfl ?_);refine sa65_ ?_)|((with_reducible refine gld_ 65 rfl ?_);refine la65_ ?_)|(go_at_call 41;(with_reducible refine (spec_l03Any.calls a0_1 a0_2 a0_3 a0_4 a0_5 a0_6 true _ A41.out).mono ?_);rintro e w45 ⟨rfl,hb⟩;have n_:=an_ (blk_below (pk_ Ja.out) hb)<|D (below_step (pB_ HB.out) hb);clear Ja HB;obtain ⟨Ja,HB⟩:=n_;(try clear hb))|(go_at_call 41;(with_reducible refine (spec_l03Any.calls a0_7 a0_8 a0_9 a0_10 a0_11 a0_12 Kd2 _ A43.out).mono ?_);rintro e w47 ⟨rfl,hb⟩;have n_:=an_ (blk_below (pk_ Ja.out) hb)<|D (below_step (pB_ HB.out) hb);clear Ja HB;obtain ⟨Ja,HB⟩:=n_;(try clear hb)))
                 go_meet
                 case rel => exact ⟨_, (!Kd2), (by first|rfl|rw [show (a0_0 == 1)=true by assumption]|rw [show (a0_0 == 1)=false by assumption]),Z11, H', ⟨by have := HJ1.out; have := HJ7.out; have := HJ11.out; first | omega | exact Nat.le_refl _⟩, ⟨pk_ Ja.out⟩, ⟨pB_ HB.out⟩⟩
                ·replace c42 := Bool.eq_false_iff.mpr c42
                 subst c42;rw [if_neg (show ¬ (false=true) by decide)] at H;have H':=D H;clear H
                 go_wp2_with (first|((with_reducible refine gld_ 37 rfl ?_);(first|refine la37o1_ ?_|refine la37o7_ ?_))|((with_reducible refine gld_ 3 rfl ?_);refine lc3_ ?_)|((with_reducible refine gst_ 27 rfl ?_);refine sa27_ ?_)|((with_reducible refine gld_ 27 rfl ?_);refine la27_ ?_)|((with_reducible refine gst_ 39 rfl ?_);refine sa39_ ?_)|((with_reducible refine gld_ 39 rfl ?_);refine la39_ ?_)|((with_reducible refine gst_ 65 rfl ?_);refine sa65_ ?_)|((with_reducible refine gld_ 65 rfl ?_);refine la65_ ?_)|(go_at_call 41;(with_reducible refine (spec_l03Any.calls a0_1 a0_2 a0_3 a0_4 a0_5 a0_6 false _ A41.out).mono ?_);rintro e w49 ⟨rfl,hb⟩;have n_:=an_ (blk_below (pk_ Ja.out) hb)<|D (below_step (pB_ HB.out) hb);clear Ja HB;obtain ⟨Ja,HB⟩:=n_;(try clear hb)))
                 go_meet
                 case rel => exact ⟨_, (true), (by first|rfl|rw [show (a0_0 == 1)=true by assumption]|rw [show (a0_0 == 1)=false by assumption]),Z11, H', ⟨by have := HJ1.out; have := HJ7.out; have := HJ11.out; first | omega | exact Nat.le_refl _⟩, ⟨pk_ Ja.out⟩, ⟨pB_ HB.out⟩⟩
              ·rw [if_neg c38] at H
               have c38b0:(a0_16 == 0)=false:=beq_eq_false_iff_ne.mpr c38;have c38b1:(a0_16 != 0)=true:=bne_iff_ne.mpr c38;have H':=D H;clear H
               go_wp2_with (first|((with_reducible refine gld_ 37 rfl ?_);(first|refine la37o1_ ?_|refine la37o7_ ?_))|((with_reducible refine gld_ 3 rfl ?_);refine lc3_ ?_)|((with_reducible refine gst_ 27 rfl ?_);refine sa27_ ?_)|((with_reducible refine gld_ 27 rfl ?_);refine la27_ ?_)|((with_reducible refine gst_ 39 rfl ?_);refine sa39_ ?_)|((with_reducible refine gld_ 39 rfl ?_);refine la39_ ?_)|((with_reducible refine gst_ 65 rfl ?_);refine sa65_ ?_)|((with_reducible refine gld_ 65 rfl ?_);refine la65_ ?_))
               go_meet
               case rel => exact ⟨_, (true), (by first|rfl|rw [show (a0_0 == 1)=true by assumption]|rw [show (a0_0 == 1)=false by assumption]),Z11, H', ⟨by have := HJ1.out; have := HJ7.out; have := HJ11.out; first | omega | exact Nat.le_refl _⟩, ⟨pk_ Ja.out⟩, ⟨pB_ HB.out⟩⟩
            ·rw [if_neg c25] at H
             have c25b0:(a0_15 == 0)=false:=beq_eq_false_iff_ne.mpr c25;have c25b1:(a0_15 != 0)=true:=bne_iff_ne.mpr c25;have H':=D H;clear H
             go_wp2_with (first|((with_reducible refine gld_ 37 rfl ?_);(first|refine la37o1_ ?_|refine la37o7_ ?_))|((with_reducible refine gld_ 3 rfl ?_);refine lc3_ ?_)|((with_reducible refine gst_ 27 rfl ?_);refine sa27_ ?_)|((with_reducible refine gld_ 27 rfl ?_);refine la27_ ?_)|((with_reducible refine gst_ 39 rfl ?_);refine sa39_ ?_)|((with_reducible refine gld_ 39 rfl ?_);refine la39_ ?_)|((with_reducible refine gst_ 65 rfl ?_);refine sa65_ ?_)|((with_reducible refine gld_ 65 rfl ?_);refine la65_ ?_))
             go_meet
             case rel => exact ⟨_, (true), (by first|rfl|rw [show (a0_0 == 1)=true by assumption]|rw [show (a0_0 == 1)=false by assumption]),Z11, H', ⟨by have := HJ1.out; have := HJ7.out; have := HJ11.out; first | omega | exact Nat.le_refl _⟩, ⟨pk_ Ja.out⟩, ⟨pB_ HB.out⟩⟩
           ·rw [if_neg c24] at H
            have c24b0:(a0_14 == 0)=false:=beq_eq_false_iff_ne.mpr c24;have c24b1:(a0_14 != 0)=true:=bne_iff_ne.mpr c24;have H':=D H;clear H
            go_wp2_with (first|((with_reducible refine gld_ 37 rfl ?_);(first|refine la37o1_ ?_|refine la37o7_ ?_))|((with_reducible refine gld_ 3 rfl ?_);refine lc3_ ?_)|((with_reducible refine gst_ 27 rfl ?_);refine sa27_ ?_)|((with_reducible refine gld_ 27 rfl ?_);refine la27_ ?_)|((with_reducible refine gst_ 39 rfl ?_);refine sa39_ ?_)|((with_reducible refine gld_ 39 rfl ?_);refine la39_ ?_)|((with_reducible refine gst_ 65 rfl ?_);refine sa65_ ?_)|((with_reducible refine gld_ 65 rfl ?_);refine la65_ ?_))
            go_meet
            case rel => exact ⟨_, (true), (by first|rfl|rw [show (a0_0 == 1)=true by assumption]|rw [show (a0_0 == 1)=false by assumption]),Z11, H', ⟨by have := HJ1.out; have := HJ7.out; have := HJ11.out; first | omega | exact Nat.le_refl _⟩, ⟨pk_ Ja.out⟩, ⟨pB_ HB.out⟩⟩
          ·rw [if_neg c23] at H
           have c23b0:(a0_13 == 0)=false:=beq_eq_false_iff_ne.mpr c23;have c23b1:(a0_13 != 0)=true:=bne_iff_ne.mpr c23;have H':=D H;clear H
           go_wp2_with (first|((with_reducible refine gld_ 37 rfl ?_);(first|refine la37o1_ ?_|refine la37o7_ ?_))|((with_reducible refine gld_ 3 rfl ?_);refine lc3_ ?_)|((with_reducible refine gst_ 27 rfl ?_);refine sa27_ ?_)|((with_reducible refine gld_ 27 rfl ?_);refine la27_ ?_)|((with_reducible refine gst_ 39 rfl ?_);refine sa39_ ?_)|((with_reducible refine gld_ 39 rfl ?_);refine la39_ ?_)|((with_reducible refine gst_ 65 rfl ?_);refine sa65_ ?_)|((with_reducible refine gld_ 65 rfl ?_);refine la65_ ?_))
           go_meet
           case rel => exact ⟨_, (true), (by first|rfl|rw [show (a0_0 == 1)=true by assumption]|rw [show (a0_0 == 1)=false by assumption]),Z11, H', ⟨by have := HJ1.out; have := HJ7.out; have := HJ11.out; first | omega | exact Nat.le_refl _⟩, ⟨pk_ Ja.out⟩, ⟨pB_ HB.out⟩⟩
        case rest =>
         clear HC17
         (try clear c1);(try clear c2);(try clear p2);(try clear c3);(try clear c4);(try clear c18);(try clear c18b0);(try clear c18b1);(try clear c18b2);(try clear c20);(try clear c20b0);(try clear c20b1);(try clear c23);(try clear c23b0);(try clear c23b1);(try clear c24);(try clear c24b0);(try clear c24b1);(try clear c25);(try clear c25b0);(try clear c25b1);(try clear c26);(try clear c27);(try clear c30);(try clear c38);(try clear c38b0);(try clear c38b1);(try clear c39);(try clear c42);skip;skip;skip;skip;skip;skip;skip;skip;skip;skip;skip;skip;skip;skip
         obtain ⟨kq, Oa, rfl,rfl,HA, HJ16, Ja, HB⟩ := hcut
         cases kq with
         | zero => exact absurd HA.out (by simp [spec_ModuleOk.j3])
         | succ kj16 =>
          have H := HA.out; clear HA; simp only [spec_ModuleOk.j3] at H
          by_cases c54 : Oa = true
          ·subst c54
           rw [if_pos rfl] at H; obtain rfl := Option.some.inj H
           go_wp2_with (first|((with_reducible refine gld_ 37 rfl ?_);(first|refine la37o1_ ?_|refine la37o7_ ?_))|((with_reducible refine gld_ 3 rfl ?_);refine lc3_ ?_)|((with_reducible refine gst_ 27 rfl ?_);refine sa27_ ?_)|((with_reducible refine gld_ 27 rfl ?_);refine la27_ ?_)|((with_reducible refine gst_ 39 rfl ?_);refine sa39_ ?_)|((with_reducible refine gld_ 39 rfl ?_);refine la39_ ?_)|((with_reducible refine gst_ 65 rfl ?_);refine sa65_ ?_)|((with_reducible refine gld_ 65 rfl ?_);refine la65_ ?_))
           go_ret; exact ⟨er_, pB_ HB.out⟩
          ·replace c54 := Bool.eq_false_iff.mpr c54
           subst c54; rw [if_neg (show ¬ (false = true) by decide)] at H
           by_cases c55 : a0_0 = 1
           ·rw [if_pos c55] at H
            have c55b0:(a0_0 == 1)=true:=beq_iff_eq.mpr c55;have c55b1:(a0_0 != 1)=false:=bne_eq_false_iff_eq.mpr c55;clear c55;obtain ⟨Of5,A560,H⟩:=bs_.mp H;(try dsimp only at H);have A56:=D A560;clear A560
            by_cases c57 : Of5 = true
            ·subst c57
             rw [if_pos rfl] at H; obtain ⟨Uf5, A580, H⟩ := bs_.mp H; (try dsimp only at H); have A58 := D A580; clear A580
             by_cases c59 : Uf5 = true
             ·subst c59
              rw [if_pos rfl] at H
              by_cases c60 : a0_13 ≥ (-1)
              ·rw [if_pos c60] at H
               have c60b0 : decide ((-1) ≤ a0_13) = true := decide_eq_true c60; clear c60
               by_cases c61 : a0_13 ≤ 255
               ·rw [if_pos c61] at H
                have c61b0:decide (a0_13≤255)=true:=decide_eq_true c61;clear c61;obtain ⟨Xf5,A620,H⟩:=bs_.mp H;(try dsimp only at H);have A62:=D A620;clear A620;obtain rfl:=Option.some.inj H
                go_wp2_with (first|((with_reducible refine gld_ 37 rfl ?_);(first|refine la37o1_ ?_|refine la37o7_ ?_))|((with_reducible refine gld_ 3 rfl ?_);refine lc3_ ?_)|((with_reducible refine gst_ 27 rfl ?_);refine sa27_ ?_)|((with_reducible refine gld_ 27 rfl ?_);refine la27_ ?_)|((with_reducible refine gst_ 39 rfl ?_);refine sa39_ ?_)|((with_reducible refine gld_ 39 rfl ?_);refine la39_ ?_)|((with_reducible refine gst_ 65 rfl ?_);refine sa65_ ?_)|((with_reducible refine gld_ 65 rfl ?_);refine la65_ ?_)|((with_reducible refine gate_callee (f:=27) rfl ?_);refine goesL_ (some 85) rfl rfl Try.func27 (by kernel_rfl) rfl #[.agg #[I L a0_1,I L a0_2,I L a0_3,I L a0_4,I L a0_5,I L a0_6]] rfl Z6 ?_;(with_reducible refine (spec_PrefixOk.calls kj16 a0_1 a0_2 a0_3 a0_4 a0_5 a0_6 true _ A56.out).mono ?_);rintro e w64 ⟨rfl,hb⟩;refine ⟨_,rfl,?_⟩;have n_:=an_ (blk_below (pk_ Ja.out) hb)<|D (below_step (pB_ HB.out) hb);clear Ja HB;obtain ⟨Ja,HB⟩:=n_;(try clear hb))|(go_at_call 27;(with_reducible refine (spec_PrefixOk.calls kj16 a0_7 a0_8 a0_9 a0_10 a0_11 a0_12 true _ A58.out).mono ?_);rintro e w66 ⟨rfl,hb⟩;have n_:=an_ (blk_below (pk_ Ja.out) hb)<|D (below_step (pB_ HB.out) hb);clear Ja HB;obtain ⟨Ja,HB⟩:=n_;(try clear hb))|(go_at_call 28;(with_reducible refine (spec_l09Range.calls a0_14 a0_15 Xf5 _ A62.out).mono ?_);rintro e w' ⟨rfl,⟨nd,rfl⟩⟩))
                go_ret; exact ⟨er_, pB_ HB.out⟩
               ·rw [if_neg c61] at H
                have c61b0:decide (a0_13≤255)=false:=decide_eq_false c61;clear c61;obtain rfl:=Option.some.inj H
                go_wp2_with (first|((with_reducible refine gld_ 37 rfl ?_);(first|refine la37o1_ ?_|refine la37o7_ ?_))|((with_reducible refine gld_ 3 rfl ?_);refine lc3_ ?_)|((with_reducible refine gst_ 27 rfl ?_);refine sa27_ ?_)|((with_reducible refine gld_ 27 rfl ?_);refine la27_ ?_)|((with_reducible refine gst_ 39 rfl ?_);refine sa39_ ?_)|((with_reducible refine gld_ 39 rfl ?_);refine la39_ ?_)|((with_reducible refine gst_ 65 rfl ?_);refine sa65_ ?_)|((with_reducible refine gld_ 65 rfl ?_);refine la65_ ?_)|((with_reducible refine gate_callee (f:=27) rfl ?_);refine goesL_ (some 85) rfl rfl Try.func27 (by kernel_rfl) rfl #[.agg #[I L a0_1,I L a0_2,I L a0_3,I L a0_4,I L a0_5,I L a0_6]] rfl Z6 ?_;(with_reducible refine (spec_PrefixOk.calls kj16 a0_1 a0_2 a0_3 a0_4 a0_5 a0_6 true _ A56.out).mono ?_);rintro e w69 ⟨rfl,hb⟩;refine ⟨_,rfl,?_⟩;have n_:=an_ (blk_below (pk_ Ja.out) hb)<|D (below_step (pB_ HB.out) hb);clear Ja HB;obtain ⟨Ja,HB⟩:=n_;(try clear hb))|(go_at_call 27;(with_reducible refine (spec_PrefixOk.calls kj16 a0_7 a0_8 a0_9 a0_10 a0_11 a0_12 true _ A58.out).mono ?_);rintro e w71 ⟨rfl,hb⟩;have n_:=an_ (blk_below (pk_ Ja.out) hb)<|D (below_step (pB_ HB.out) hb);clear Ja HB;obtain ⟨Ja,HB⟩:=n_;(try clear hb)))
                go_ret; exact ⟨er_, pB_ HB.out⟩
              ·rw [if_neg c60] at H
               have c60b0:decide ((-1)≤a0_13)=false:=decide_eq_false c60;clear c60;obtain rfl:=Option.some.inj H
               go_wp2_with (first|((with_reducible refine gld_ 37 rfl ?_);(first|refine la37o1_ ?_|refine la37o7_ ?_))|((with_reducible refine gld_ 3 rfl ?_);refine lc3_ ?_)|((with_reducible refine gst_ 27 rfl ?_);refine sa27_ ?_)|((with_reducible refine gld_ 27 rfl ?_);refine la27_ ?_)|((with_reducible refine gst_ 39 rfl ?_);refine sa39_ ?_)|((with_reducible refine gld_ 39 rfl ?_);refine la39_ ?_)|((with_reducible refine gst_ 65 rfl ?_);refine sa65_ ?_)|((with_reducible refine gld_ 65 rfl ?_);refine la65_ ?_)|((with_reducible refine gate_callee (f:=27) rfl ?_);refine goesL_ (some 85) rfl rfl Try.func27 (by kernel_rfl) rfl #[.agg #[I L a0_1,I L a0_2,I L a0_3,I L a0_4,I L a0_5,I L a0_6]] rfl Z6 ?_;(with_reducible refine (spec_PrefixOk.calls kj16 a0_1 a0_2 a0_3 a0_4 a0_5 a0_6 true _ A56.out).mono ?_);rintro e w74 ⟨rfl,hb⟩;refine ⟨_,rfl,?_⟩;have n_:=an_ (blk_below (pk_ Ja.out) hb)<|D (below_step (pB_ HB.out) hb);clear Ja HB;obtain ⟨Ja,HB⟩:=n_;(try clear hb))|(go_at_call 27;(with_reducible refine (spec_PrefixOk.calls kj16 a0_7 a0_8 a0_9 a0_10 a0_11 a0_12 true _ A58.out).mono ?_);rintro e w76 ⟨rfl,hb⟩;have n_:=an_ (blk_below (pk_ Ja.out) hb)<|D (below_step (pB_ HB.out) hb);clear Ja HB;obtain ⟨Ja,HB⟩:=n_;(try clear hb)))
               go_ret; exact ⟨er_, pB_ HB.out⟩
             ·replace c59 := Bool.eq_false_iff.mpr c59
              subst c59;rw [if_neg (show ¬ (false=true) by decide)] at H;obtain rfl:=Option.some.inj H
              go_wp2_with (first|((with_reducible refine gld_ 37 rfl ?_);(first|refine la37o1_ ?_|refine la37o7_ ?_))|((with_reducible refine gld_ 3 rfl ?_);refine lc3_ ?_)|((with_reducible refine gst_ 27 rfl ?_);refine sa27_ ?_)|((with_reducible refine gld_ 27 rfl ?_);refine la27_ ?_)|((with_reducible refine gst_ 39 rfl ?_);refine sa39_ ?_)|((with_reducible refine gld_ 39 rfl ?_);refine la39_ ?_)|((with_reducible refine gst_ 65 rfl ?_);refine sa65_ ?_)|((with_reducible refine gld_ 65 rfl ?_);refine la65_ ?_)|((with_reducible refine gate_callee (f:=27) rfl ?_);refine goesL_ (some 85) rfl rfl Try.func27 (by kernel_rfl) rfl #[.agg #[I L a0_1,I L a0_2,I L a0_3,I L a0_4,I L a0_5,I L a0_6]] rfl Z6 ?_;(with_reducible refine (spec_PrefixOk.calls kj16 a0_1 a0_2 a0_3 a0_4 a0_5 a0_6 true _ A56.out).mono ?_);rintro e w79 ⟨rfl,hb⟩;refine ⟨_,rfl,?_⟩;have n_:=an_ (blk_below (pk_ Ja.out) hb)<|D (below_step (pB_ HB.out) hb);clear Ja HB;obtain ⟨Ja,HB⟩:=n_;(try clear hb))|(go_at_call 27;(with_reducible refine (spec_PrefixOk.calls kj16 a0_7 a0_8 a0_9 a0_10 a0_11 a0_12 false _ A58.out).mono ?_);rintro e w81 ⟨rfl,hb⟩;have n_:=an_ (blk_below (pk_ Ja.out) hb)<|D (below_step (pB_ HB.out) hb);clear Ja HB;obtain ⟨Ja,HB⟩:=n_;(try clear hb)))
              go_ret; exact ⟨er_, pB_ HB.out⟩
            ·replace c57 := Bool.eq_false_iff.mpr c57
             subst c57;rw [if_neg (show ¬ (false=true) by decide)] at H;obtain rfl:=Option.some.inj H
             go_wp2_with (first|((with_reducible refine gld_ 37 rfl ?_);(first|refine la37o1_ ?_|refine la37o7_ ?_))|((with_reducible refine gld_ 3 rfl ?_);refine lc3_ ?_)|((with_reducible refine gst_ 27 rfl ?_);refine sa27_ ?_)|((with_reducible refine gld_ 27 rfl ?_);refine la27_ ?_)|((with_reducible refine gst_ 39 rfl ?_);refine sa39_ ?_)|((with_reducible refine gld_ 39 rfl ?_);refine la39_ ?_)|((with_reducible refine gst_ 65 rfl ?_);refine sa65_ ?_)|((with_reducible refine gld_ 65 rfl ?_);refine la65_ ?_)|((with_reducible refine gate_callee (f:=27) rfl ?_);refine goesL_ (some 85) rfl rfl Try.func27 (by kernel_rfl) rfl #[.agg #[I L a0_1,I L a0_2,I L a0_3,I L a0_4,I L a0_5,I L a0_6]] rfl Z6 ?_;(with_reducible refine (spec_PrefixOk.calls kj16 a0_1 a0_2 a0_3 a0_4 a0_5 a0_6 false _ A56.out).mono ?_);rintro e w83 ⟨rfl,hb⟩;refine ⟨_,rfl,?_⟩;have n_:=an_ (blk_below (pk_ Ja.out) hb)<|D (below_step (pB_ HB.out) hb);clear Ja HB;obtain ⟨Ja,HB⟩:=n_;(try clear hb)))
             go_ret; exact ⟨er_, pB_ HB.out⟩
           ·rw [if_neg c55] at H
            have c55b0:(a0_0 == 1)=false:=beq_eq_false_iff_ne.mpr c55;have c55b1:(a0_0 != 1)=true:=bne_iff_ne.mpr c55;have HC84:=D H;clear H
            go_upto_if 108 with (first|((with_reducible refine gld_ 37 rfl ?_);(first|refine la37o1_ ?_|refine la37o7_ ?_))|((with_reducible refine gld_ 3 rfl ?_);refine lc3_ ?_)|((with_reducible refine gst_ 27 rfl ?_);refine sa27_ ?_)|((with_reducible refine gld_ 27 rfl ?_);refine la27_ ?_)|((with_reducible refine gst_ 39 rfl ?_);refine sa39_ ?_)|((with_reducible refine gld_ 39 rfl ?_);refine la39_ ?_)|((with_reducible refine gst_ 65 rfl ?_);refine sa65_ ?_)|((with_reducible refine gld_ 65 rfl ?_);refine la65_ ?_))
            go_cut [108] (fun Uk8 wc=>∃ (kq:Nat) (Ua:Bool),Uk8=.bool Ua∧Aside0 (spec_ModuleOk.j4 kq a0_0 Ua a0_0 a0_1 a0_2 a0_3 a0_4 a0_5 a0_6 a0_7 a0_8 a0_9 a0_10 a0_11 a0_12 a0_13 a0_14 a0_15 a0_16=some r)∧Aside0 (kq≤kj16)∧Aside0 (wc.heap[Ka]?=some (.cells #[I L a0_0,I L a0_1,I L a0_2,I L a0_3,I L a0_4,I L a0_5,I L a0_6,I L a0_7,I L a0_8,I L a0_9,I L a0_10,I L a0_11,I L a0_12,I L a0_13,I L a0_14,I L a0_15,I L a0_16] 65 (0,0)))∧Aside0 (Below w.heap.size w wc))
            case first =>
             have H := HC84.out; clear HC84
             by_cases c86 : a0_0 = 2
             ·rw [if_pos c86] at H
              have c86b0:(a0_0 == 2)=true:=beq_iff_eq.mpr c86;have c86b1:(a0_0 != 2)=false:=bne_eq_false_iff_eq.mpr c86;clear c86;refine rw_ c86b0 ?_;have H':=D H;clear H
              go_wp2_with (first|((with_reducible refine gld_ 37 rfl ?_);(first|refine la37o1_ ?_|refine la37o7_ ?_))|((with_reducible refine gld_ 3 rfl ?_);refine lc3_ ?_)|((with_reducible refine gst_ 27 rfl ?_);refine sa27_ ?_)|((with_reducible refine gld_ 27 rfl ?_);refine la27_ ?_)|((with_reducible refine gst_ 39 rfl ?_);refine sa39_ ?_)|((with_reducible refine gld_ 39 rfl ?_);refine la39_ ?_)|((with_reducible refine gst_ 65 rfl ?_);refine sa65_ ?_)|((with_reducible refine gld_ 65 rfl ?_);refine la65_ ?_))
              go_meet
              case rel => exact ⟨_, ((a0_0 == 2)), Z11, H', ⟨by have := HJ1.out; have := HJ7.out; have := HJ11.out; have := HJ16.out; first | omega | exact Nat.le_refl _⟩, ⟨pk_ Ja.out⟩, ⟨pB_ HB.out⟩⟩
             ·rw [if_neg c86] at H
              have c86b0:(a0_0 == 2)=false:=beq_eq_false_iff_ne.mpr c86;have c86b1:(a0_0 != 2)=true:=bne_iff_ne.mpr c86;refine rw_ c86b0 ?_;have H':=D H;clear H
              go_wp2_with (first|((with_reducible refine gld_ 37 rfl ?_);(first|refine la37o1_ ?_|refine la37o7_ ?_))|((with_reducible refine gld_ 3 rfl ?_);refine lc3_ ?_)|((with_reducible refine gst_ 27 rfl ?_);refine sa27_ ?_)|((with_reducible refine gld_ 27 rfl ?_);refine la27_ ?_)|((with_reducible refine gst_ 39 rfl ?_);refine sa39_ ?_)|((with_reducible refine gld_ 39 rfl ?_);refine la39_ ?_)|((with_reducible refine gst_ 65 rfl ?_);refine sa65_ ?_)|((with_reducible refine gld_ 65 rfl ?_);refine la65_ ?_))
              go_meet
              case rel => exact ⟨_, ((a0_0 == 3)), Z11, H', ⟨by have := HJ1.out; have := HJ7.out; have := HJ11.out; have := HJ16.out; first | omega | exact Nat.le_refl _⟩, ⟨pk_ Ja.out⟩, ⟨pB_ HB.out⟩⟩
            case rest =>
             clear HC84
             (try clear c2);(try clear p2);(try clear c5);(try clear c6);(try clear c8);(try clear c27);(try clear c54);(try clear c55);(try clear c55b0);(try clear c55b1);(try clear c57);(try clear c59);(try clear c60);(try clear c60b0);(try clear c61);(try clear c61b0);(try clear c86);(try clear c86b0);(try clear c86b1);skip;skip;skip;skip;skip;skip;skip;skip;skip;skip;skip;skip;skip;skip;skip;skip;skip;skip;skip;skip;skip;skip;skip;skip;skip;skip;skip
             obtain ⟨kq, Ua, rfl, HA, HJ83, Ja, HB⟩ := hcut
             cases kq with
             | zero => exact absurd HA.out (by simp [spec_ModuleOk.j4])
             | succ kj83 =>
              have H := HA.out; clear HA; simp only [spec_ModuleOk.j4] at H
              by_cases c87 : Ua = true
              ·subst c87
               rw [if_pos rfl] at H;obtain ⟨Xk8,A880,H⟩:=bs_.mp H;(try dsimp only at H);have A88:=D A880;clear A880;obtain rfl:=Option.some.inj H
               go_wp2_with (first|((with_reducible refine gld_ 37 rfl ?_);(first|refine la37o1_ ?_|refine la37o7_ ?_))|((with_reducible refine gld_ 3 rfl ?_);refine lc3_ ?_)|((with_reducible refine gst_ 27 rfl ?_);refine sa27_ ?_)|((with_reducible refine gld_ 27 rfl ?_);refine la27_ ?_)|((with_reducible refine gst_ 39 rfl ?_);refine sa39_ ?_)|((with_reducible refine gld_ 39 rfl ?_);refine la39_ ?_)|((with_reducible refine gst_ 65 rfl ?_);refine sa65_ ?_)|((with_reducible refine gld_ 65 rfl ?_);refine la65_ ?_)|((with_reducible refine gate_callee (f:=45) rfl ?_);refine goesL_ (some 115) rfl rfl Try.func45 (by kernel_rfl) rfl #[.agg #[I L a0_1,I L a0_2,I L a0_3,I L a0_4,I L a0_5,I L a0_6],.agg #[I L a0_7,I L a0_8,I L a0_9,I L a0_10,I L a0_11,I L a0_12]] rfl Z6 ?_;(with_reducible refine (spec_l10Twins.calls kj83 a0_1 a0_2 a0_3 a0_4 a0_5 a0_6 a0_7 a0_8 a0_9 a0_10 a0_11 a0_12 Xk8 _ A88.out).mono ?_);rintro e w90 ⟨rfl,hb⟩;refine ⟨_,rfl,?_⟩;have n_:=an_ (blk_below (pk_ Ja.out) hb)<|D (below_step (pB_ HB.out) hb);clear Ja HB;obtain ⟨Ja,HB⟩:=n_;(try clear hb)))
               go_ret; exact ⟨er_, pB_ HB.out⟩
              ·replace c87 := Bool.eq_false_iff.mpr c87
               subst c87; rw [if_neg (show ¬ (false = true) by decide)] at H
               by_cases c91 : a0_0 = 5
               ·rw [if_pos c91] at H
                have c91b0:(a0_0 == 5)=true:=beq_iff_eq.mpr c91;have c91b1:(a0_0 != 5)=false:=bne_eq_false_iff_eq.mpr c91;clear c91;obtain ⟨Jm8,A920,H⟩:=bs_.mp H;(try dsimp only at H);have A92:=D A920;clear A920;obtain rfl:=Option.some.inj H
                go_wp2_with (first|((with_reducible refine gld_ 37 rfl ?_);(first|refine la37o1_ ?_|refine la37o7_ ?_))|((with_reducible refine gld_ 3 rfl ?_);refine lc3_ ?_)|((with_reducible refine gst_ 27 rfl ?_);refine sa27_ ?_)|((with_reducible refine gld_ 27 rfl ?_);refine la27_ ?_)|((with_reducible refine gst_ 39 rfl ?_);refine sa39_ ?_)|((with_reducible refine gld_ 39 rfl ?_);refine la39_ ?_)|((with_reducible refine gst_ 65 rfl ?_);refine sa65_ ?_)|((with_reducible refine gld_ 65 rfl ?_);refine la65_ ?_)|((with_reducible refine gate_callee (f:=13) rfl ?_);refine goesL_ (some 120) rfl rfl Try.func13 (by kernel_rfl) rfl #[I L a0_16,I L 63] rfl Z6 ?_;(with_reducible refine (spec_l05In.calls a0_16 63 Jm8 _ A92.out).mono ?_);rintro e w' ⟨rfl,⟨nd,rfl⟩⟩;refine ⟨_,rfl,?_⟩))
                go_ret; exact ⟨er_, pB_ HB.out⟩
               ·rw [if_neg c91] at H
                have c91b0 : (a0_0 == 5) = false := beq_eq_false_iff_ne.mpr c91; have c91b1 : (a0_0 != 5) = true := bne_iff_ne.mpr c91
                by_cases c94 : a0_0 = 7
                ·rw [if_pos c94] at H
                 have c94b0 : (a0_0 == 7) = true := beq_iff_eq.mpr c94; have c94b1 : (a0_0 != 7) = false := bne_eq_false_iff_eq.mpr c94; clear c94
                 by_cases c95 : a0_16 ≥ 1
                 ·rw [if_pos c95] at H
                  have c95b0:decide (1≤a0_16)=true:=decide_eq_true c95;clear c95;obtain rfl:=Option.some.inj H
                  go_wp2_with (first|((with_reducible refine gld_ 37 rfl ?_);(first|refine la37o1_ ?_|refine la37o7_ ?_))|((with_reducible refine gld_ 3 rfl ?_);refine lc3_ ?_)|((with_reducible refine gst_ 27 rfl ?_);refine sa27_ ?_)|((with_reducible refine gld_ 27 rfl ?_);refine la27_ ?_)|((with_reducible refine gst_ 39 rfl ?_);refine sa39_ ?_)|((with_reducible refine gld_ 39 rfl ?_);refine la39_ ?_)|((with_reducible refine gst_ 65 rfl ?_);refine sa65_ ?_)|((with_reducible refine gld_ 65 rfl ?_);refine la65_ ?_))
                  go_ret; exact ⟨er_, pB_ HB.out⟩
                 ·rw [if_neg c95] at H
                  have c95b0:decide (1≤a0_16)=false:=decide_eq_false c95;clear c95;obtain rfl:=Option.some.inj H
                  go_wp2_with (first|((with_reducible refine gld_ 37 rfl ?_);(first|refine la37o1_ ?_|refine la37o7_ ?_))|((with_reducible refine gld_ 3 rfl ?_);refine lc3_ ?_)|((with_reducible refine gst_ 27 rfl ?_);refine sa27_ ?_)|((with_reducible refine gld_ 27 rfl ?_);refine la27_ ?_)|((with_reducible refine gst_ 39 rfl ?_);refine sa39_ ?_)|((with_reducible refine gld_ 39 rfl ?_);refine la39_ ?_)|((with_reducible refine gst_ 65 rfl ?_);refine sa65_ ?_)|((with_reducible refine gld_ 65 rfl ?_);refine la65_ ?_))
                  go_ret; exact ⟨er_, pB_ HB.out⟩
                ·rw [if_neg c94] at H
                 have c94b0 : (a0_0 == 7) = false := beq_eq_false_iff_ne.mpr c94; have c94b1 : (a0_0 != 7) = true := bne_iff_ne.mpr c94; obtain rfl := Option.some.inj H
                 go_wp2_with (first|((with_reducible refine gld_ 37 rfl ?_);(first|refine la37o1_ ?_|refine la37o7_ ?_))|((with_reducible refine gld_ 3 rfl ?_);refine lc3_ ?_)|((with_reducible refine gst_ 27 rfl ?_);refine sa27_ ?_)|((with_reducible refine gld_ 27 rfl ?_);refine la27_ ?_)|((with_reducible refine gst_ 39 rfl ?_);refine sa39_ ?_)|((with_reducible refine gld_ 39 rfl ?_);refine la39_ ?_)|((with_reducible refine gst_ 65 rfl ?_);refine sa65_ ?_)|((with_reducible refine gld_ 65 rfl ?_);refine la65_ ?_))
                 go_ret; exact ⟨er_, pB_ HB.out⟩

end Go.Proofs.Ytjhgkonacdimfab.PFnExactCmdOk
