-- by a program of this session's, over the kit's words
import Derived.Test.YtmloggnobgikdabPZFnExactTreeShed
import Derived.Test.YtmloggnobgikdabPFnExactTreeShedx0
import Derived.Test.YtmloggnobgikdabPFnExactTreeShedx17
namespace Go.Proofs.Ytmloggnobgikdab.PFnExactTreeShed
open Go.RowKit Go.Proofs.YtmloggnobgikdabW.PrintWords Go.Proofs.YtmloggnobgikdabW.PrintLast Go.Proofs.YtmloggnobgikdabW.PrintMore Go.Proofs.YtmloggnobgikdabV Go.Proofs.Ytmloggnobgikdab.ZFnExactTreeShed
open Go.Value renaming int → I, slice → Y
open Go.IntKind renaming i64 → L
open Aside0 renaming mk → D
open Option renaming bind_eq_some_iff → bs_
attribute [local go_sem] max2_int min2_int max_two min_two max_three min_three max_four min_four   -- for this text's walks alone
set_option linter.unusedVariables false
set_option linter.unusedSimpArgs false

/-! ### laws_markBranchS: function 25 -/
def laws_markBranchS.l0 : Nat → List (S50) → Int → Int → Option (Int × (List (S50)))
 | 0, _, _, _ => none
 | k + 1,x0,x1,x5=>if x5 < (x0.length:Int) then (if 0≤x5 then ((some (x0.set (x5:Int).toNat (⟨x1,(⟨(rd_T50 x0 x5).f1.f0,(⟨(rd_T50 x0 x5).f1.f1.f0,(rd_T50 x0 x5).f1.f1.f1,(rd_T50 x0 x5).f1.f1.f2⟩:S31),(rd_T50 x0 x5).f1.f2⟩:S34)⟩:S50):List (S50))).bind fun y523=>((some (y523.set (x5:Int).toNat (⟨(rd_T50 y523 x5).f0,(⟨wrap64 (x1 + 1),(⟨(rd_T50 y523 x5).f1.f1.f0,(rd_T50 y523 x5).f1.f1.f1,(rd_T50 y523 x5).f1.f1.f2⟩:S31),(rd_T50 y523 x5).f1.f2⟩:S34)⟩:S50):List (S50))).bind fun y524=>((some (y524.set (x5:Int).toNat (⟨(rd_T50 y524 x5).f0,(⟨(rd_T50 y524 x5).f1.f0,(⟨wrap64 ((wrap64 (x1 + 1)) + 1),(rd_T50 y524 x5).f1.f1.f1,(rd_T50 y524 x5).f1.f1.f2⟩:S31),(rd_T50 y524 x5).f1.f2⟩:S34)⟩:S50):List (S50))).bind fun y525=>((some (y525.set (x5:Int).toNat (⟨(rd_T50 y525 x5).f0,(⟨(rd_T50 y525 x5).f1.f0,(⟨(rd_T50 y525 x5).f1.f1.f0,wrap64 ((wrap64 ((wrap64 (x1 + 1)) + 1)) + 1),(rd_T50 y525 x5).f1.f1.f2⟩:S31),(rd_T50 y525 x5).f1.f2⟩:S34)⟩:S50):List (S50))).bind fun y526=>((some (y526.set (x5:Int).toNat (⟨(rd_T50 y526 x5).f0,(⟨(rd_T50 y526 x5).f1.f0,(⟨(rd_T50 y526 x5).f1.f1.f0,(rd_T50 y526 x5).f1.f1.f1,wrap64 ((wrap64 ((wrap64 ((wrap64 (x1 + 1)) + 1)) + 1)) + 1)⟩:S31),(rd_T50 y526 x5).f1.f2⟩:S34)⟩:S50):List (S50))).bind fun y527=>((laws_markKidS.f k ((rd_T50 y527 x5).f1.f2) (wrap64 ((wrap64 ((wrap64 ((wrap64 ((wrap64 (x1 + 1)) + 1)) + 1)) + 1)) + 1))).bind fun bt529=>(laws_markBranchS.l0 k (y527.set (x5:Int).toNat (⟨(rd_T50 y527 x5).f0,(⟨(rd_T50 y527 x5).f1.f0,(⟨(rd_T50 y527 x5).f1.f1.f0,(rd_T50 y527 x5).f1.f1.f1,(rd_T50 y527 x5).f1.f1.f2⟩:S31),bt529.2⟩:S34)⟩:S50)) bt529.1 (wrap64 (x5 + 1))))))))) else (none)) else (some (x1,x0))
def laws_markBranchS.f (k : Nat) (l0 : List (S50)) (a1 : Int) : Option (Int × (List (S50))) := laws_markBranchS.l0 k l0 a1 0
set_option maxHeartbeats 8000000 in
set_option maxRecDepth 100000 in
theorem laws_markBranchS.calls (k : Nat) (P0_ : Nat → Prop) (u9000_ : Value) (l0 : List (S50)) (a1 r1 : Int) (r2 : List (S50)) (w0 w : World) (hB : Below w0.heap.size w0 w) (ho0 : Kd.S k50 50 w w0.heap.size P0_ u9000_ l0) (h : laws_markBranchS.f k l0 a1 = some (r1, r2)) :
  Calls Try.prog 25 #[u9000_,I L a1] w fun e w'=>e=.returned (I L r1)∧Kd.S k50 50 w' w0.heap.size (fun k_=>(P0_ k_ ∨ w.heap.size≤k_)) u9000_ r2∧Below w0.heap.size w0 w'∧Kept w w' (fun k_=>P0_ k_):=by
 have Jb := D (show Kd.S k50 50 w w0.heap.size (fun k_ => (P0_ k_ ∨ w.heap.size ≤ k_)) u9000_ l0 from Kd.S_mono ho0 (fun k_ hk => (.inl hk)))
 have HK := D (Kept.refl w (fun k_ => P0_ k_))
 have HW0 := D hB.size
 have HB := D hB
 clear hB
 have H : (laws_markBranchS.l0 k l0 a1 0) = some (r1, r2) := h
 clear h
 have H' := D H
 clear H
 go_enter Try.func25, Try.ntmps25
 go_wp2
 go_loopg [1,5] k (fun kq v1 v5 w'=>∃ (x0_1:List (S50)) (x1_1:Int) (x5_1:Int),v1=I L x1_1∧v5=I L x5_1∧Aside0 (laws_markBranchS.l0 kq x0_1 x1_1 x5_1=some (r1,r2))∧Aside0 (kq≤k)∧Aside0 (Kd.S k50 50 w' w0.heap.size (fun k_=>(P0_ k_ ∨ w.heap.size≤k_)) u9000_ x0_1)∧Aside0 (Kept w w' (fun k_=>P0_ k_))∧Aside0 (Below w0.heap.size w0 w'))
 case atStart=>exact ⟨(l0),(a1),(0),Z51,Z51,H',⟨Nat.le_refl _⟩,⟨pS_ Jb.out⟩,⟨by repeat (first|(with_reducible first|exact HK.out|apply Kept.alloc|apply Kept.drewN|apply Kept.drew)|exact HK.out)⟩,⟨pB_ HB.out⟩⟩
 case round =>
  clear H'
  (try clear c2);(try clear p2)
  obtain ⟨x0_1, x1_1, x5_1, rfl, rfl, HA, HK1, Ja, HK, HB⟩ := hrel
  cases gk with
  | zero => exact absurd HA.out (by simp [laws_markBranchS.l0])
  | succ k1 =>
   have H := HA.out; clear HA; simp only [laws_markBranchS.l0] at H
   by_cases c3 : x5_1 < (x0_1.length : Int)
   ·rw [if_pos c3] at H
    have c3b0 : decide (x5_1 < (x0_1.length : Int)) = true := decide_eq_true c3; clear c3
    by_cases c4 : 0 ≤ x5_1
    ·rw [if_pos c4] at H
     have c4b0:decide (0≤x5_1)=true:=decide_eq_true c4;clear c4;obtain ⟨y523,hy523⟩:∃ y_:List (S50),y_=(x0_1.set (x5_1:Int).toNat (⟨x1_1,(⟨(rd_T50 x0_1 x5_1).f1.f0,(⟨(rd_T50 x0_1 x5_1).f1.f1.f0,(rd_T50 x0_1 x5_1).f1.f1.f1,(rd_T50 x0_1 x5_1).f1.f1.f2⟩:S31),(rd_T50 x0_1 x5_1).f1.f2⟩:S34)⟩:S50)):=⟨_,rfl⟩
     replace H:((some (y523.set (x5_1:Int).toNat (⟨(rd_T50 y523 x5_1).f0,(⟨wrap64 (x1_1 + 1),(⟨(rd_T50 y523 x5_1).f1.f1.f0,(rd_T50 y523 x5_1).f1.f1.f1,(rd_T50 y523 x5_1).f1.f1.f2⟩:S31),(rd_T50 y523 x5_1).f1.f2⟩:S34)⟩:S50):List (S50))).bind fun y524=>((some (y524.set (x5_1:Int).toNat (⟨(rd_T50 y524 x5_1).f0,(⟨(rd_T50 y524 x5_1).f1.f0,(⟨wrap64 ((wrap64 (x1_1 + 1)) + 1),(rd_T50 y524 x5_1).f1.f1.f1,(rd_T50 y524 x5_1).f1.f1.f2⟩:S31),(rd_T50 y524 x5_1).f1.f2⟩:S34)⟩:S50):List (S50))).bind fun y525=>((some (y525.set (x5_1:Int).toNat (⟨(rd_T50 y525 x5_1).f0,(⟨(rd_T50 y525 x5_1).f1.f0,(⟨(rd_T50 y525 x5_1).f1.f1.f0,wrap64 ((wrap64 ((wrap64 (x1_1 + 1)) + 1)) + 1),(rd_T50 y525 x5_1).f1.f1.f2⟩:S31),(rd_T50 y525 x5_1).f1.f2⟩:S34)⟩:S50):List (S50))).bind fun y526=>((some (y526.set (x5_1:Int).toNat (⟨(rd_T50 y526 x5_1).f0,(⟨(rd_T50 y526 x5_1).f1.f0,(⟨(rd_T50 y526 x5_1).f1.f1.f0,(rd_T50 y526 x5_1).f1.f1.f1,wrap64 ((wrap64 ((wrap64 ((wrap64 (x1_1 + 1)) + 1)) + 1)) + 1)⟩:S31),(rd_T50 y526 x5_1).f1.f2⟩:S34)⟩:S50):List (S50))).bind fun y527=>((laws_markKidS.f k1 ((rd_T50 y527 x5_1).f1.f2) (wrap64 ((wrap64 ((wrap64 ((wrap64 ((wrap64 (x1_1 + 1)) + 1)) + 1)) + 1)) + 1))).bind fun bt529=>(laws_markBranchS.l0 k1 (y527.set (x5_1:Int).toNat (⟨(rd_T50 y527 x5_1).f0,(⟨(rd_T50 y527 x5_1).f1.f0,(⟨(rd_T50 y527 x5_1).f1.f1.f0,(rd_T50 y527 x5_1).f1.f1.f1,(rd_T50 y527 x5_1).f1.f1.f2⟩:S31),bt529.2⟩:S34)⟩:S50)) bt529.1 (wrap64 (x5_1 + 1))))))))=some (r1,r2):=by first|(rw [hy523];with_reducible exact H)|(have H2_:=(Option.bind_some _ _).symm.trans H;rw [hy523];with_reducible exact H2_)|(have H2_:=(Option.bind_some _ _).symm.trans H;with_reducible exact H2_)|with_reducible exact H|(rw [hy523];exact H)|exact H
     have Ny523:=D hy523;clear hy523;obtain ⟨y524,hy524⟩:∃ y_:List (S50),y_=(y523.set (x5_1:Int).toNat (⟨(rd_T50 y523 x5_1).f0,(⟨wrap64 (x1_1 + 1),(⟨(rd_T50 y523 x5_1).f1.f1.f0,(rd_T50 y523 x5_1).f1.f1.f1,(rd_T50 y523 x5_1).f1.f1.f2⟩:S31),(rd_T50 y523 x5_1).f1.f2⟩:S34)⟩:S50)):=⟨_,rfl⟩
     replace H:((some (y524.set (x5_1:Int).toNat (⟨(rd_T50 y524 x5_1).f0,(⟨(rd_T50 y524 x5_1).f1.f0,(⟨wrap64 ((wrap64 (x1_1 + 1)) + 1),(rd_T50 y524 x5_1).f1.f1.f1,(rd_T50 y524 x5_1).f1.f1.f2⟩:S31),(rd_T50 y524 x5_1).f1.f2⟩:S34)⟩:S50):List (S50))).bind fun y525=>((some (y525.set (x5_1:Int).toNat (⟨(rd_T50 y525 x5_1).f0,(⟨(rd_T50 y525 x5_1).f1.f0,(⟨(rd_T50 y525 x5_1).f1.f1.f0,wrap64 ((wrap64 ((wrap64 (x1_1 + 1)) + 1)) + 1),(rd_T50 y525 x5_1).f1.f1.f2⟩:S31),(rd_T50 y525 x5_1).f1.f2⟩:S34)⟩:S50):List (S50))).bind fun y526=>((some (y526.set (x5_1:Int).toNat (⟨(rd_T50 y526 x5_1).f0,(⟨(rd_T50 y526 x5_1).f1.f0,(⟨(rd_T50 y526 x5_1).f1.f1.f0,(rd_T50 y526 x5_1).f1.f1.f1,wrap64 ((wrap64 ((wrap64 ((wrap64 (x1_1 + 1)) + 1)) + 1)) + 1)⟩:S31),(rd_T50 y526 x5_1).f1.f2⟩:S34)⟩:S50):List (S50))).bind fun y527=>((laws_markKidS.f k1 ((rd_T50 y527 x5_1).f1.f2) (wrap64 ((wrap64 ((wrap64 ((wrap64 ((wrap64 (x1_1 + 1)) + 1)) + 1)) + 1)) + 1))).bind fun bt529=>(laws_markBranchS.l0 k1 (y527.set (x5_1:Int).toNat (⟨(rd_T50 y527 x5_1).f0,(⟨(rd_T50 y527 x5_1).f1.f0,(⟨(rd_T50 y527 x5_1).f1.f1.f0,(rd_T50 y527 x5_1).f1.f1.f1,(rd_T50 y527 x5_1).f1.f1.f2⟩:S31),bt529.2⟩:S34)⟩:S50)) bt529.1 (wrap64 (x5_1 + 1)))))))=some (r1,r2):=by first|(rw [hy524];with_reducible exact H)|(have H2_:=(Option.bind_some _ _).symm.trans H;rw [hy524];with_reducible exact H2_)|(have H2_:=(Option.bind_some _ _).symm.trans H;with_reducible exact H2_)|with_reducible exact H|(rw [hy524];exact H)|exact H
     have Ny524:=D hy524;clear hy524;obtain ⟨y525,hy525⟩:∃ y_:List (S50),y_=(y524.set (x5_1:Int).toNat (⟨(rd_T50 y524 x5_1).f0,(⟨(rd_T50 y524 x5_1).f1.f0,(⟨wrap64 ((wrap64 (x1_1 + 1)) + 1),(rd_T50 y524 x5_1).f1.f1.f1,(rd_T50 y524 x5_1).f1.f1.f2⟩:S31),(rd_T50 y524 x5_1).f1.f2⟩:S34)⟩:S50)):=⟨_,rfl⟩
     replace H:((some (y525.set (x5_1:Int).toNat (⟨(rd_T50 y525 x5_1).f0,(⟨(rd_T50 y525 x5_1).f1.f0,(⟨(rd_T50 y525 x5_1).f1.f1.f0,wrap64 ((wrap64 ((wrap64 (x1_1 + 1)) + 1)) + 1),(rd_T50 y525 x5_1).f1.f1.f2⟩:S31),(rd_T50 y525 x5_1).f1.f2⟩:S34)⟩:S50):List (S50))).bind fun y526=>((some (y526.set (x5_1:Int).toNat (⟨(rd_T50 y526 x5_1).f0,(⟨(rd_T50 y526 x5_1).f1.f0,(⟨(rd_T50 y526 x5_1).f1.f1.f0,(rd_T50 y526 x5_1).f1.f1.f1,wrap64 ((wrap64 ((wrap64 ((wrap64 (x1_1 + 1)) + 1)) + 1)) + 1)⟩:S31),(rd_T50 y526 x5_1).f1.f2⟩:S34)⟩:S50):List (S50))).bind fun y527=>((laws_markKidS.f k1 ((rd_T50 y527 x5_1).f1.f2) (wrap64 ((wrap64 ((wrap64 ((wrap64 ((wrap64 (x1_1 + 1)) + 1)) + 1)) + 1)) + 1))).bind fun bt529=>(laws_markBranchS.l0 k1 (y527.set (x5_1:Int).toNat (⟨(rd_T50 y527 x5_1).f0,(⟨(rd_T50 y527 x5_1).f1.f0,(⟨(rd_T50 y527 x5_1).f1.f1.f0,(rd_T50 y527 x5_1).f1.f1.f1,(rd_T50 y527 x5_1).f1.f1.f2⟩:S31),bt529.2⟩:S34)⟩:S50)) bt529.1 (wrap64 (x5_1 + 1))))))=some (r1,r2):=by first|(rw [hy525];with_reducible exact H)|(have H2_:=(Option.bind_some _ _).symm.trans H;rw [hy525];with_reducible exact H2_)|(have H2_:=(Option.bind_some _ _).symm.trans H;with_reducible exact H2_)|with_reducible exact H|(rw [hy525];exact H)|exact H
     have Ny525:=D hy525;clear hy525;obtain ⟨y526,hy526⟩:∃ y_:List (S50),y_=(y525.set (x5_1:Int).toNat (⟨(rd_T50 y525 x5_1).f0,(⟨(rd_T50 y525 x5_1).f1.f0,(⟨(rd_T50 y525 x5_1).f1.f1.f0,wrap64 ((wrap64 ((wrap64 (x1_1 + 1)) + 1)) + 1),(rd_T50 y525 x5_1).f1.f1.f2⟩:S31),(rd_T50 y525 x5_1).f1.f2⟩:S34)⟩:S50)):=⟨_,rfl⟩
     replace H:((some (y526.set (x5_1:Int).toNat (⟨(rd_T50 y526 x5_1).f0,(⟨(rd_T50 y526 x5_1).f1.f0,(⟨(rd_T50 y526 x5_1).f1.f1.f0,(rd_T50 y526 x5_1).f1.f1.f1,wrap64 ((wrap64 ((wrap64 ((wrap64 (x1_1 + 1)) + 1)) + 1)) + 1)⟩:S31),(rd_T50 y526 x5_1).f1.f2⟩:S34)⟩:S50):List (S50))).bind fun y527=>((laws_markKidS.f k1 ((rd_T50 y527 x5_1).f1.f2) (wrap64 ((wrap64 ((wrap64 ((wrap64 ((wrap64 (x1_1 + 1)) + 1)) + 1)) + 1)) + 1))).bind fun bt529=>(laws_markBranchS.l0 k1 (y527.set (x5_1:Int).toNat (⟨(rd_T50 y527 x5_1).f0,(⟨(rd_T50 y527 x5_1).f1.f0,(⟨(rd_T50 y527 x5_1).f1.f1.f0,(rd_T50 y527 x5_1).f1.f1.f1,(rd_T50 y527 x5_1).f1.f1.f2⟩:S31),bt529.2⟩:S34)⟩:S50)) bt529.1 (wrap64 (x5_1 + 1)))))=some (r1,r2):=by first|(rw [hy526];with_reducible exact H)|(have H2_:=(Option.bind_some _ _).symm.trans H;rw [hy526];with_reducible exact H2_)|(have H2_:=(Option.bind_some _ _).symm.trans H;with_reducible exact H2_)|with_reducible exact H|(rw [hy526];exact H)|exact H
     have Ny526:=D hy526;clear hy526;obtain ⟨y527,hy527⟩:∃ y_:List (S50),y_=(y526.set (x5_1:Int).toNat (⟨(rd_T50 y526 x5_1).f0,(⟨(rd_T50 y526 x5_1).f1.f0,(⟨(rd_T50 y526 x5_1).f1.f1.f0,(rd_T50 y526 x5_1).f1.f1.f1,wrap64 ((wrap64 ((wrap64 ((wrap64 (x1_1 + 1)) + 1)) + 1)) + 1)⟩:S31),(rd_T50 y526 x5_1).f1.f2⟩:S34)⟩:S50)):=⟨_,rfl⟩
     replace H:((laws_markKidS.f k1 ((rd_T50 y527 x5_1).f1.f2) (wrap64 ((wrap64 ((wrap64 ((wrap64 ((wrap64 (x1_1 + 1)) + 1)) + 1)) + 1)) + 1))).bind fun bt529=>(laws_markBranchS.l0 k1 (y527.set (x5_1:Int).toNat (⟨(rd_T50 y527 x5_1).f0,(⟨(rd_T50 y527 x5_1).f1.f0,(⟨(rd_T50 y527 x5_1).f1.f1.f0,(rd_T50 y527 x5_1).f1.f1.f1,(rd_T50 y527 x5_1).f1.f1.f2⟩:S31),bt529.2⟩:S34)⟩:S50)) bt529.1 (wrap64 (x5_1 + 1))))=some (r1,r2):=by first|(rw [hy527];with_reducible exact H)|(have H2_:=(Option.bind_some _ _).symm.trans H;rw [hy527];with_reducible exact H2_)|(have H2_:=(Option.bind_some _ _).symm.trans H;with_reducible exact H2_)|with_reducible exact H|(rw [hy527];exact H)|exact H
     have Ny527:=D hy527;clear hy527;obtain ⟨⟨Ua,Ma⟩,A100,H⟩:=bs_.mp H;(try dsimp only at H);have A10:=D A100;clear A100;have H':=D H;clear H;obtain ⟨Kb,Ka,eo11⟩:=Kd.S_slice Ja.out;subst eo11;have p5:0≤(x5_1:Int):=od_ Z50;have q5:(x5_1:Int) < ((x0_1.length:Int):Int):=od_ Z50;obtain ⟨go5,Mb,eo5,Xa,gl5,cl5,HG5⟩:=Kd.S_form Ja.out (by omega);(first|cases eo5|(injection eo5 with ea_ en_ ec_;(first|subst ea_|(injection ea_ with ea_;subst ea_));subst ec_;clear en_));have GB5:=D Xa;have GG5:=D HG5;clear Xa gl5 HG5;have HMgo5:=D (show (P0_ go5 ∨ w.heap.size≤go5) from ((Kd.S_R Ja.out).1 _ rfl));obtain ⟨_,ce5,hcl5,hM5,hcc5,hfr5,_,_⟩:=Kd.S_elem Ja.out z50 (x5_1:Int) p5 q5;obtain ⟨ve5_5,rfl,ge5_5⟩:=k50_openM hM5;have hx5_0:wr.cell? ⟨go5,(x5_1:Int).toNat * 6,none⟩=some (I L ((rd_T50 x0_1 x5_1).f0)):=hcc5 0 _ rfl;have hx5_1:wr.cell? ⟨go5,(x5_1:Int).toNat * 6 + 1,none⟩=some (I L ((rd_T50 x0_1 x5_1).f1.f0)):=hcc5 1 _ rfl;have hx5_2:wr.cell? ⟨go5,(x5_1:Int).toNat * 6 + 2,none⟩=some (I L ((rd_T50 x0_1 x5_1).f1.f1.f0)):=hcc5 2 _ rfl;have hx5_3:wr.cell? ⟨go5,(x5_1:Int).toNat * 6 + 3,none⟩=some (I L ((rd_T50 x0_1 x5_1).f1.f1.f1)):=hcc5 3 _ rfl;have hx5_4:wr.cell? ⟨go5,(x5_1:Int).toNat * 6 + 4,none⟩=some (I L ((rd_T50 x0_1 x5_1).f1.f1.f2)):=hcc5 4 _ rfl;have hx5_5:wr.cell? ⟨go5,(x5_1:Int).toNat * 6 + 5,none⟩=some (ve5_5):=hcc5 5 _ rfl;have hf5_0:wr.frozen? ⟨go5,(x5_1:Int).toNat * 6,none⟩=false:=hfr5 0;have hf5_1:wr.frozen? ⟨go5,(x5_1:Int).toNat * 6 + 1,none⟩=false:=hfr5 1;have hf5_2:wr.frozen? ⟨go5,(x5_1:Int).toNat * 6 + 2,none⟩=false:=hfr5 2;have hf5_3:wr.frozen? ⟨go5,(x5_1:Int).toNat * 6 + 3,none⟩=false:=hfr5 3;have hf5_4:wr.frozen? ⟨go5,(x5_1:Int).toNat * 6 + 4,none⟩=false:=hfr5 4;have hf5_5:wr.frozen? ⟨go5,(x5_1:Int).toNat * 6 + 5,none⟩=false:=hfr5 5;clear hcl5 hcc5 hfr5 hM5;replace p5:=eq_true p5;replace q5:=eq_true q5;have HX12:=D (show Kd.S k50 50 wr w0.heap.size (fun k_=>((fun k_=>(P0_ k_ ∨ w.heap.size≤k_))) k_∧¬ ((fun _=>False)) k_) (Y (some ⟨go5,0,none⟩) x0_1.length Ka) x0_1 from (pS_ (Kd.S_mono Ja.out (fun k_ hk=>⟨hk,fun e_=>e_⟩))));obtain ⟨oki12,ce12,hcl12,hM12,hcc12,hfr12,hoki12,hH12⟩:=Kd.S_elem HX12.out z50 (x5_1:Int) (od_ Z50) (by have h_:(x5_1:Int) < ((x0_1.length:Int):Int):=od_ Z50;first|exact h_|(have e_:=(Kd.S_reads' Ja.out).1;omega)|simpa using h_);obtain ⟨ve12_5,rfl,ge12_5⟩:=k50_openM hM12;have HP12:=Kd.S_seg hH12 (od_ Z50) (by have h_:(x5_1:Int) < ((x0_1.length:Int):Int):=od_ Z50;first|exact h_|(have e_:=(Kd.S_reads' Ja.out).1;omega)|simpa using h_) (seg:=[I L x1_1]) (j:=0) (show 1≤6 from by decide) (x':=(⟨x1_1,(⟨(rd_T50 x0_1 x5_1).f1.f0,(⟨(rd_T50 x0_1 x5_1).f1.f1.f0,(rd_T50 x0_1 x5_1).f1.f1.f1,(rd_T50 x0_1 x5_1).f1.f1.f2⟩:S31),(rd_T50 x0_1 x5_1).f1.f2⟩:S34)⟩:S50)) (k50_mkM _ _ _ (⟨x1_1,(⟨(rd_T50 x0_1 x5_1).f1.f0,(⟨(rd_T50 x0_1 x5_1).f1.f1.f0,(rd_T50 x0_1 x5_1).f1.f1.f1,(rd_T50 x0_1 x5_1).f1.f1.f2⟩:S31),(rd_T50 x0_1 x5_1).f1.f2⟩:S34)⟩:S50) (Kd.R_mono ge12_5 (fun _ h_=>Or.inl h_))) (fun _ hk=>hk) (fun k_ hk_=>hk_.elim);have hx12_0:=hcc12 0 _ rfl;(try simp only [show (k50).sz=6 from rfl,Nat.mul_one,Nat.add_zero] at hx12_0);have hf12_0:=hfr12 0;(try simp only [show (k50).sz=6 from rfl,Nat.mul_one,Nat.add_zero] at hf12_0);clear hcl12 hcc12 hfr12 hM12 hoki12 hH12
     go_wp2_with (first|((with_reducible refine gate_store (t:=3) (p:=16) rfl ?_);refine store_event (t:=3) (p:=16) (v:=?vo_w13) (w1:=(wr.setCell ⟨go5,(x5_1:Int).toNat * 6,none⟩ (I L x1_1))) ?hg ?ho ?hn ?hr ?_;(case ho=>rfl);(case hg=>rfl);(case hn=>rfl);(case hr=>first|(go_simp;done)|(go_simp;rfl));intro w13 hw;have hg:wr.grownBy w13 (some go5):=Z53;have hp_:Kd.S k50 50 w13 w0.heap.size (fun k_=>(P0_ k_ ∨ w.heap.size≤k_)) (Y (some ⟨go5,0,none⟩) x0_1.length Ka) y523:=(by rw [hw,Ny523.out];exact HP12.1);clear HP12;have n_:=an_ (hp_)<|an_ ((by rw [hw];exact below_set (HB.out) GB5.out:Below w0.heap.size w0 w13))<|D (Kept.of_grown (S:=(fun k_=>P0_ k_)) hg Z15 (fun k_ e_=>((Kd.S_R Ja.out).1 k_ e_)));clear Ja HB HK;obtain ⟨Ja,HB,HK⟩:=n_;clear hg hw hp_;have p6:0≤(x5_1:Int):=od_ Z50;have q6:(x5_1:Int) < ((x0_1.length:Int):Int):=od_ Z50;obtain ⟨_,ce6,hcl6,hM6,hcc6,hfr6,_,_⟩:=Kd.S_elem Ja.out z50 (x5_1:Int) p6 q6;obtain ⟨ve6_5,rfl,ge6_5⟩:=k50_openM hM6;have hx6_0:w13.cell? ⟨go5,(x5_1:Int).toNat * 6,none⟩=some (I L ((rd_T50 y523 x5_1).f0)):=hcc6 0 _ rfl;have hx6_1:w13.cell? ⟨go5,(x5_1:Int).toNat * 6 + 1,none⟩=some (I L ((rd_T50 y523 x5_1).f1.f0)):=hcc6 1 _ rfl;have hx6_2:w13.cell? ⟨go5,(x5_1:Int).toNat * 6 + 2,none⟩=some (I L ((rd_T50 y523 x5_1).f1.f1.f0)):=hcc6 2 _ rfl;have hx6_3:w13.cell? ⟨go5,(x5_1:Int).toNat * 6 + 3,none⟩=some (I L ((rd_T50 y523 x5_1).f1.f1.f1)):=hcc6 3 _ rfl;have hx6_4:w13.cell? ⟨go5,(x5_1:Int).toNat * 6 + 4,none⟩=some (I L ((rd_T50 y523 x5_1).f1.f1.f2)):=hcc6 4 _ rfl;have hx6_5:w13.cell? ⟨go5,(x5_1:Int).toNat * 6 + 5,none⟩=some (ve6_5):=hcc6 5 _ rfl;have hf6_0:w13.frozen? ⟨go5,(x5_1:Int).toNat * 6,none⟩=false:=hfr6 0;have hf6_1:w13.frozen? ⟨go5,(x5_1:Int).toNat * 6 + 1,none⟩=false:=hfr6 1;have hf6_2:w13.frozen? ⟨go5,(x5_1:Int).toNat * 6 + 2,none⟩=false:=hfr6 2;have hf6_3:w13.frozen? ⟨go5,(x5_1:Int).toNat * 6 + 3,none⟩=false:=hfr6 3;have hf6_4:w13.frozen? ⟨go5,(x5_1:Int).toNat * 6 + 4,none⟩=false:=hfr6 4;have hf6_5:w13.frozen? ⟨go5,(x5_1:Int).toNat * 6 + 5,none⟩=false:=hfr6 5;clear hcl6 hcc6 hfr6 hM6;replace p6:=eq_true p6;replace q6:=eq_true q6;have HX14:=D (show Kd.S k50 50 w13 w0.heap.size (fun k_=>((fun k_=>(P0_ k_ ∨ w.heap.size≤k_))) k_∧¬ ((fun _=>False)) k_) (Y (some ⟨go5,0,none⟩) x0_1.length Ka) y523 from (pS_ (Kd.S_mono Ja.out (fun k_ hk=>⟨hk,fun e_=>e_⟩))));obtain ⟨oki14,ce14,hcl14,hM14,hcc14,hfr14,hoki14,hH14⟩:=Kd.S_elem HX14.out z50 (x5_1:Int) (od_ Z50) (by have h_:(x5_1:Int) < ((x0_1.length:Int):Int):=od_ Z50;first|exact h_|(have e_:=(Kd.S_reads' Ja.out).1;omega)|simpa using h_);obtain ⟨ve14_5,rfl,ge14_5⟩:=k50_openM hM14;have HP14:=Kd.S_seg hH14 (od_ Z50) (by have h_:(x5_1:Int) < ((x0_1.length:Int):Int):=od_ Z50;first|exact h_|(have e_:=(Kd.S_reads' Ja.out).1;omega)|simpa using h_) (seg:=[I L (wrap64 (x1_1 + 1))]) (j:=1) (show 2≤6 from by decide) (x':=(⟨(rd_T50 y523 x5_1).f0,(⟨wrap64 (x1_1 + 1),(⟨(rd_T50 y523 x5_1).f1.f1.f0,(rd_T50 y523 x5_1).f1.f1.f1,(rd_T50 y523 x5_1).f1.f1.f2⟩:S31),(rd_T50 y523 x5_1).f1.f2⟩:S34)⟩:S50)) (k50_mkM _ _ _ (⟨(rd_T50 y523 x5_1).f0,(⟨wrap64 (x1_1 + 1),(⟨(rd_T50 y523 x5_1).f1.f1.f0,(rd_T50 y523 x5_1).f1.f1.f1,(rd_T50 y523 x5_1).f1.f1.f2⟩:S31),(rd_T50 y523 x5_1).f1.f2⟩:S34)⟩:S50) (Kd.R_mono ge14_5 (fun _ h_=>Or.inl h_))) (fun _ hk=>hk) (fun k_ hk_=>hk_.elim);have hx14_1:=hcc14 1 _ rfl;(try simp only [show (k50).sz=6 from rfl,Nat.mul_one,Nat.add_zero] at hx14_1);have hf14_1:=hfr14 1;(try simp only [show (k50).sz=6 from rfl,Nat.mul_one,Nat.add_zero] at hf14_1);clear hcl14 hcc14 hfr14 hM14 hoki14 hH14)|((with_reducible refine gate_store (t:=3) (p:=24) rfl ?_);refine store_event (t:=3) (p:=24) (v:=?vo_w15) (w1:=(w13.setCell ⟨go5,(x5_1:Int).toNat * 6 + 1,none⟩ (I L (wrap64 (x1_1 + 1))))) ?hg ?ho ?hn ?hr ?_;(case ho=>rfl);(case hg=>rfl);(case hn=>rfl);(case hr=>first|(go_simp;done)|(go_simp;rfl));intro w15 hw;have hg:w13.grownBy w15 (some go5):=(by rw [hw];exact HP14.2);have hp_:Kd.S k50 50 w15 w0.heap.size (fun k_=>(P0_ k_ ∨ w.heap.size≤k_)) (Y (some ⟨go5,0,none⟩) x0_1.length Ka) y524:=(by rw [hw,Ny524.out];exact HP14.1);clear HP14;have n_:=an_ (hp_)<|an_ ((by rw [hw];exact below_set (HB.out) GB5.out:Below w0.heap.size w0 w15))<|D (Kept.of_grown (S:=(fun k_=>P0_ k_)) hg Z15 (fun k_ e_=>((Kd.S_R Ja.out).1 k_ e_)));clear Ja HB HK;obtain ⟨Ja,HB,HK⟩:=n_;clear hg hw hp_;have p7:0≤(x5_1:Int):=od_ Z50;have q7:(x5_1:Int) < ((x0_1.length:Int):Int):=od_ Z50;obtain ⟨_,ce7,hcl7,hM7,hcc7,hfr7,_,_⟩:=Kd.S_elem Ja.out z50 (x5_1:Int) p7 q7;obtain ⟨ve7_5,rfl,ge7_5⟩:=k50_openM hM7;have hx7_0:w15.cell? ⟨go5,(x5_1:Int).toNat * 6,none⟩=some (I L ((rd_T50 y524 x5_1).f0)):=hcc7 0 _ rfl;have hx7_1:w15.cell? ⟨go5,(x5_1:Int).toNat * 6 + 1,none⟩=some (I L ((rd_T50 y524 x5_1).f1.f0)):=hcc7 1 _ rfl;have hx7_2:w15.cell? ⟨go5,(x5_1:Int).toNat * 6 + 2,none⟩=some (I L ((rd_T50 y524 x5_1).f1.f1.f0)):=hcc7 2 _ rfl;have hx7_3:w15.cell? ⟨go5,(x5_1:Int).toNat * 6 + 3,none⟩=some (I L ((rd_T50 y524 x5_1).f1.f1.f1)):=hcc7 3 _ rfl;have hx7_4:w15.cell? ⟨go5,(x5_1:Int).toNat * 6 + 4,none⟩=some (I L ((rd_T50 y524 x5_1).f1.f1.f2)):=hcc7 4 _ rfl;have hx7_5:w15.cell? ⟨go5,(x5_1:Int).toNat * 6 + 5,none⟩=some (ve7_5):=hcc7 5 _ rfl;have hf7_0:w15.frozen? ⟨go5,(x5_1:Int).toNat * 6,none⟩=false:=hfr7 0;have hf7_1:w15.frozen? ⟨go5,(x5_1:Int).toNat * 6 + 1,none⟩=false:=hfr7 1;have hf7_2:w15.frozen? ⟨go5,(x5_1:Int).toNat * 6 + 2,none⟩=false:=hfr7 2;have hf7_3:w15.frozen? ⟨go5,(x5_1:Int).toNat * 6 + 3,none⟩=false:=hfr7 3;have hf7_4:w15.frozen? ⟨go5,(x5_1:Int).toNat * 6 + 4,none⟩=false:=hfr7 4;have hf7_5:w15.frozen? ⟨go5,(x5_1:Int).toNat * 6 + 5,none⟩=false:=hfr7 5;clear hcl7 hcc7 hfr7 hM7;replace p7:=eq_true p7;replace q7:=eq_true q7;have HX16:=D (show Kd.S k50 50 w15 w0.heap.size (fun k_=>((fun k_=>(P0_ k_ ∨ w.heap.size≤k_))) k_∧¬ ((fun _=>False)) k_) (Y (some ⟨go5,0,none⟩) x0_1.length Ka) y524 from (pS_ (Kd.S_mono Ja.out (fun k_ hk=>⟨hk,fun e_=>e_⟩))));obtain ⟨oki16,ce16,hcl16,hM16,hcc16,hfr16,hoki16,hH16⟩:=Kd.S_elem HX16.out z50 (x5_1:Int) (od_ Z50) (by have h_:(x5_1:Int) < ((x0_1.length:Int):Int):=od_ Z50;first|exact h_|(have e_:=(Kd.S_reads' Ja.out).1;omega)|simpa using h_);obtain ⟨ve16_5,rfl,ge16_5⟩:=k50_openM hM16;have HP16:=Kd.S_seg hH16 (od_ Z50) (by have h_:(x5_1:Int) < ((x0_1.length:Int):Int):=od_ Z50;first|exact h_|(have e_:=(Kd.S_reads' Ja.out).1;omega)|simpa using h_) (seg:=[I L (wrap64 ((wrap64 (x1_1 + 1)) + 1))]) (j:=2) (show 3≤6 from by decide) (x':=(⟨(rd_T50 y524 x5_1).f0,(⟨(rd_T50 y524 x5_1).f1.f0,(⟨wrap64 ((wrap64 (x1_1 + 1)) + 1),(rd_T50 y524 x5_1).f1.f1.f1,(rd_T50 y524 x5_1).f1.f1.f2⟩:S31),(rd_T50 y524 x5_1).f1.f2⟩:S34)⟩:S50)) (k50_mkM _ _ _ (⟨(rd_T50 y524 x5_1).f0,(⟨(rd_T50 y524 x5_1).f1.f0,(⟨wrap64 ((wrap64 (x1_1 + 1)) + 1),(rd_T50 y524 x5_1).f1.f1.f1,(rd_T50 y524 x5_1).f1.f1.f2⟩:S31),(rd_T50 y524 x5_1).f1.f2⟩:S34)⟩:S50) (Kd.R_mono ge16_5 (fun _ h_=>Or.inl h_))) (fun _ hk=>hk) (fun k_ hk_=>hk_.elim);have hx16_2:=hcc16 2 _ rfl;(try simp only [show (k50).sz=6 from rfl,Nat.mul_one,Nat.add_zero] at hx16_2);have hf16_2:=hfr16 2;(try simp only [show (k50).sz=6 from rfl,Nat.mul_one,Nat.add_zero] at hf16_2);clear hcl16 hcc16 hfr16 hM16 hoki16 hH16)|((with_reducible refine gate_store (t:=3) (p:=33) rfl ?_);refine store_event (t:=3) (p:=33) (v:=?vo_w17) (w1:=(w15.setCell ⟨go5,(x5_1:Int).toNat * 6 + 2,none⟩ (I L (wrap64 ((wrap64 (x1_1 + 1)) + 1))))) ?hg ?ho ?hn ?hr ?_;(case ho=>rfl);(case hg=>rfl);(case hn=>rfl);(case hr=>first|(go_simp;done)|(go_simp;rfl));intro w17 hw;have hg:w15.grownBy w17 (some go5):=(by rw [hw];exact HP16.2);have hp_:Kd.S k50 50 w17 w0.heap.size (fun k_=>(P0_ k_ ∨ w.heap.size≤k_)) (Y (some ⟨go5,0,none⟩) x0_1.length Ka) y525:=(by rw [hw,Ny525.out];exact HP16.1);clear HP16;have n_:=an_ (hp_)<|an_ ((by rw [hw];exact below_set (HB.out) GB5.out:Below w0.heap.size w0 w17))<|D (Kept.of_grown (S:=(fun k_=>P0_ k_)) hg Z15 (fun k_ e_=>((Kd.S_R Ja.out).1 k_ e_)));clear Ja HB HK;obtain ⟨Ja,HB,HK⟩:=n_;clear hg hw hp_;have p8:0≤(x5_1:Int):=od_ Z50;have q8:(x5_1:Int) < ((x0_1.length:Int):Int):=od_ Z50;obtain ⟨_,ce8,hcl8,hM8,hcc8,hfr8,_,_⟩:=Kd.S_elem Ja.out z50 (x5_1:Int) p8 q8;obtain ⟨ve8_5,rfl,ge8_5⟩:=k50_openM hM8;have hx8_0:w17.cell? ⟨go5,(x5_1:Int).toNat * 6,none⟩=some (I L ((rd_T50 y525 x5_1).f0)):=hcc8 0 _ rfl;have hx8_1:w17.cell? ⟨go5,(x5_1:Int).toNat * 6 + 1,none⟩=some (I L ((rd_T50 y525 x5_1).f1.f0)):=hcc8 1 _ rfl;have hx8_2:w17.cell? ⟨go5,(x5_1:Int).toNat * 6 + 2,none⟩=some (I L ((rd_T50 y525 x5_1).f1.f1.f0)):=hcc8 2 _ rfl;have hx8_3:w17.cell? ⟨go5,(x5_1:Int).toNat * 6 + 3,none⟩=some (I L ((rd_T50 y525 x5_1).f1.f1.f1)):=hcc8 3 _ rfl;have hx8_4:w17.cell? ⟨go5,(x5_1:Int).toNat * 6 + 4,none⟩=some (I L ((rd_T50 y525 x5_1).f1.f1.f2)):=hcc8 4 _ rfl;have hx8_5:w17.cell? ⟨go5,(x5_1:Int).toNat * 6 + 5,none⟩=some (ve8_5):=hcc8 5 _ rfl;have hf8_0:w17.frozen? ⟨go5,(x5_1:Int).toNat * 6,none⟩=false:=hfr8 0;have hf8_1:w17.frozen? ⟨go5,(x5_1:Int).toNat * 6 + 1,none⟩=false:=hfr8 1;have hf8_2:w17.frozen? ⟨go5,(x5_1:Int).toNat * 6 + 2,none⟩=false:=hfr8 2;have hf8_3:w17.frozen? ⟨go5,(x5_1:Int).toNat * 6 + 3,none⟩=false:=hfr8 3;have hf8_4:w17.frozen? ⟨go5,(x5_1:Int).toNat * 6 + 4,none⟩=false:=hfr8 4;have hf8_5:w17.frozen? ⟨go5,(x5_1:Int).toNat * 6 + 5,none⟩=false:=hfr8 5;clear hcl8 hcc8 hfr8 hM8;replace p8:=eq_true p8;replace q8:=eq_true q8;have HX18:=D (show Kd.S k50 50 w17 w0.heap.size (fun k_=>((fun k_=>(P0_ k_ ∨ w.heap.size≤k_))) k_∧¬ ((fun _=>False)) k_) (Y (some ⟨go5,0,none⟩) x0_1.length Ka) y525 from (pS_ (Kd.S_mono Ja.out (fun k_ hk=>⟨hk,fun e_=>e_⟩))));obtain ⟨oki18,ce18,hcl18,hM18,hcc18,hfr18,hoki18,hH18⟩:=Kd.S_elem HX18.out z50 (x5_1:Int) (od_ Z50) (by have h_:(x5_1:Int) < ((x0_1.length:Int):Int):=od_ Z50;first|exact h_|(have e_:=(Kd.S_reads' Ja.out).1;omega)|simpa using h_);obtain ⟨ve18_5,rfl,ge18_5⟩:=k50_openM hM18;have HP18:=Kd.S_seg hH18 (od_ Z50) (by have h_:(x5_1:Int) < ((x0_1.length:Int):Int):=od_ Z50;first|exact h_|(have e_:=(Kd.S_reads' Ja.out).1;omega)|simpa using h_) (seg:=[I L (wrap64 ((wrap64 ((wrap64 (x1_1 + 1)) + 1)) + 1))]) (j:=3) (show 4≤6 from by decide) (x':=(⟨(rd_T50 y525 x5_1).f0,(⟨(rd_T50 y525 x5_1).f1.f0,(⟨(rd_T50 y525 x5_1).f1.f1.f0,wrap64 ((wrap64 ((wrap64 (x1_1 + 1)) + 1)) + 1),(rd_T50 y525 x5_1).f1.f1.f2⟩:S31),(rd_T50 y525 x5_1).f1.f2⟩:S34)⟩:S50)) (k50_mkM _ _ _ (⟨(rd_T50 y525 x5_1).f0,(⟨(rd_T50 y525 x5_1).f1.f0,(⟨(rd_T50 y525 x5_1).f1.f1.f0,wrap64 ((wrap64 ((wrap64 (x1_1 + 1)) + 1)) + 1),(rd_T50 y525 x5_1).f1.f1.f2⟩:S31),(rd_T50 y525 x5_1).f1.f2⟩:S34)⟩:S50) (Kd.R_mono ge18_5 (fun _ h_=>Or.inl h_))) (fun _ hk=>hk) (fun k_ hk_=>hk_.elim);have hx18_3:=hcc18 3 _ rfl;(try simp only [show (k50).sz=6 from rfl,Nat.mul_one,Nat.add_zero] at hx18_3);have hf18_3:=hfr18 3;(try simp only [show (k50).sz=6 from rfl,Nat.mul_one,Nat.add_zero] at hf18_3);clear hcl18 hcc18 hfr18 hM18 hoki18 hH18)|((with_reducible refine gate_store (t:=3) (p:=42) rfl ?_);refine store_event (t:=3) (p:=42) (v:=?vo_w19) (w1:=(w17.setCell ⟨go5,(x5_1:Int).toNat * 6 + 3,none⟩ (I L (wrap64 ((wrap64 ((wrap64 (x1_1 + 1)) + 1)) + 1))))) ?hg ?ho ?hn ?hr ?_;(case ho=>rfl);(case hg=>rfl);(case hn=>rfl);(case hr=>first|(go_simp;done)|(go_simp;rfl));intro w19 hw;have hg:w17.grownBy w19 (some go5):=(by rw [hw];exact HP18.2);have hp_:Kd.S k50 50 w19 w0.heap.size (fun k_=>(P0_ k_ ∨ w.heap.size≤k_)) (Y (some ⟨go5,0,none⟩) x0_1.length Ka) y526:=(by rw [hw,Ny526.out];exact HP18.1);clear HP18;have n_:=an_ (hp_)<|an_ ((by rw [hw];exact below_set (HB.out) GB5.out:Below w0.heap.size w0 w19))<|D (Kept.of_grown (S:=(fun k_=>P0_ k_)) hg Z15 (fun k_ e_=>((Kd.S_R Ja.out).1 k_ e_)));clear Ja HB HK;obtain ⟨Ja,HB,HK⟩:=n_;clear hg hw hp_;have p9:0≤(x5_1:Int):=od_ Z50;have q9:(x5_1:Int) < ((x0_1.length:Int):Int):=od_ Z50;obtain ⟨_,ce9,hcl9,hM9,hcc9,hfr9,_,_⟩:=Kd.S_elem Ja.out z50 (x5_1:Int) p9 q9;obtain ⟨ve9_5,rfl,ge9_5⟩:=k50_openM hM9;have hx9_0:w19.cell? ⟨go5,(x5_1:Int).toNat * 6,none⟩=some (I L ((rd_T50 y526 x5_1).f0)):=hcc9 0 _ rfl;have hx9_1:w19.cell? ⟨go5,(x5_1:Int).toNat * 6 + 1,none⟩=some (I L ((rd_T50 y526 x5_1).f1.f0)):=hcc9 1 _ rfl;have hx9_2:w19.cell? ⟨go5,(x5_1:Int).toNat * 6 + 2,none⟩=some (I L ((rd_T50 y526 x5_1).f1.f1.f0)):=hcc9 2 _ rfl;have hx9_3:w19.cell? ⟨go5,(x5_1:Int).toNat * 6 + 3,none⟩=some (I L ((rd_T50 y526 x5_1).f1.f1.f1)):=hcc9 3 _ rfl;have hx9_4:w19.cell? ⟨go5,(x5_1:Int).toNat * 6 + 4,none⟩=some (I L ((rd_T50 y526 x5_1).f1.f1.f2)):=hcc9 4 _ rfl;have hx9_5:w19.cell? ⟨go5,(x5_1:Int).toNat * 6 + 5,none⟩=some (ve9_5):=hcc9 5 _ rfl;have hf9_0:w19.frozen? ⟨go5,(x5_1:Int).toNat * 6,none⟩=false:=hfr9 0;have hf9_1:w19.frozen? ⟨go5,(x5_1:Int).toNat * 6 + 1,none⟩=false:=hfr9 1;have hf9_2:w19.frozen? ⟨go5,(x5_1:Int).toNat * 6 + 2,none⟩=false:=hfr9 2;have hf9_3:w19.frozen? ⟨go5,(x5_1:Int).toNat * 6 + 3,none⟩=false:=hfr9 3;have hf9_4:w19.frozen? ⟨go5,(x5_1:Int).toNat * 6 + 4,none⟩=false:=hfr9 4;have hf9_5:w19.frozen? ⟨go5,(x5_1:Int).toNat * 6 + 5,none⟩=false:=hfr9 5;clear hcl9 hcc9 hfr9 hM9;replace p9:=eq_true p9;replace q9:=eq_true q9;have HX20:=D (show Kd.S k50 50 w19 w0.heap.size (fun k_=>((fun k_=>(P0_ k_ ∨ w.heap.size≤k_))) k_∧¬ ((fun _=>False)) k_) (Y (some ⟨go5,0,none⟩) x0_1.length Ka) y526 from (pS_ (Kd.S_mono Ja.out (fun k_ hk=>⟨hk,fun e_=>e_⟩))));obtain ⟨oki20,ce20,hcl20,hM20,hcc20,hfr20,hoki20,hH20⟩:=Kd.S_elem HX20.out z50 (x5_1:Int) (od_ Z50) (by have h_:(x5_1:Int) < ((x0_1.length:Int):Int):=od_ Z50;first|exact h_|(have e_:=(Kd.S_reads' Ja.out).1;omega)|simpa using h_);obtain ⟨ve20_5,rfl,ge20_5⟩:=k50_openM hM20;have HP20:=Kd.S_seg hH20 (od_ Z50) (by have h_:(x5_1:Int) < ((x0_1.length:Int):Int):=od_ Z50;first|exact h_|(have e_:=(Kd.S_reads' Ja.out).1;omega)|simpa using h_) (seg:=[I L (wrap64 ((wrap64 ((wrap64 ((wrap64 (x1_1 + 1)) + 1)) + 1)) + 1))]) (j:=4) (show 5≤6 from by decide) (x':=(⟨(rd_T50 y526 x5_1).f0,(⟨(rd_T50 y526 x5_1).f1.f0,(⟨(rd_T50 y526 x5_1).f1.f1.f0,(rd_T50 y526 x5_1).f1.f1.f1,wrap64 ((wrap64 ((wrap64 ((wrap64 (x1_1 + 1)) + 1)) + 1)) + 1)⟩:S31),(rd_T50 y526 x5_1).f1.f2⟩:S34)⟩:S50)) (k50_mkM _ _ _ (⟨(rd_T50 y526 x5_1).f0,(⟨(rd_T50 y526 x5_1).f1.f0,(⟨(rd_T50 y526 x5_1).f1.f1.f0,(rd_T50 y526 x5_1).f1.f1.f1,wrap64 ((wrap64 ((wrap64 ((wrap64 (x1_1 + 1)) + 1)) + 1)) + 1)⟩:S31),(rd_T50 y526 x5_1).f1.f2⟩:S34)⟩:S50) (Kd.R_mono ge20_5 (fun _ h_=>Or.inl h_))) (fun _ hk=>hk) (fun k_ hk_=>hk_.elim);have hx20_4:=hcc20 4 _ rfl;(try simp only [show (k50).sz=6 from rfl,Nat.mul_one,Nat.add_zero] at hx20_4);have hf20_4:=hfr20 4;(try simp only [show (k50).sz=6 from rfl,Nat.mul_one,Nat.add_zero] at hf20_4);clear hcl20 hcc20 hfr20 hM20 hoki20 hH20)|((with_reducible refine gate_store (t:=3) (p:=51) rfl ?_);refine store_event (t:=3) (p:=51) (v:=?vo_w21) (w1:=(w19.setCell ⟨go5,(x5_1:Int).toNat * 6 + 4,none⟩ (I L (wrap64 ((wrap64 ((wrap64 ((wrap64 (x1_1 + 1)) + 1)) + 1)) + 1))))) ?hg ?ho ?hn ?hr ?_;(case ho=>rfl);(case hg=>rfl);(case hn=>rfl);(case hr=>first|(go_simp;done)|(go_simp;rfl));intro w21 hw;have hg:w19.grownBy w21 (some go5):=(by rw [hw];exact HP20.2);have hp_:Kd.S k50 50 w21 w0.heap.size (fun k_=>(P0_ k_ ∨ w.heap.size≤k_)) (Y (some ⟨go5,0,none⟩) x0_1.length Ka) y527:=(by rw [hw,Ny527.out];exact HP20.1);clear HP20;have n_:=an_ (hp_)<|an_ ((by rw [hw];exact below_set (HB.out) GB5.out:Below w0.heap.size w0 w21))<|D (Kept.of_grown (S:=(fun k_=>P0_ k_)) hg Z15 (fun k_ e_=>((Kd.S_R Ja.out).1 k_ e_)));clear Ja HB HK;obtain ⟨Ja,HB,HK⟩:=n_;clear hg hw hp_;have p528:0≤(x5_1:Int):=od_ Z50;have q528:x5_1 < (y527.length:Int):=(by have h_:(x5_1:Int) < ((x0_1.length:Int):Int):=od_ Z50;first|(have e_:=(Kd.S_reads' Ja.out).1;omega)|simpa only [Ny523.out,Ny524.out,Ny525.out,Ny526.out,Ny527.out,List.length_set] using h_);have ql528:((x5_1:Int) < ((x0_1.length:Int):Int))=True:=eq_true (od_ Z50);obtain ⟨ad528,A528_5,c528_5,e528,hx528_0,hx528_1,hx528_2,hx528_3,hx528_4,hx528_5,hl528_5,hi528_5⟩:=at_T50 (Kd.S_reads' Ja.out).2.2 x5_1 p528 q528;obtain rfl:(⟨go5,0,none⟩:Addr)=ad528:=(by injection e528);obtain ⟨ce528,hce528,hMe528,hcc528⟩:=Kd.S_get Ja.out z50 x5_1 p528 (by first|exact q528|exact od_ Z50|(have e_:=(Kd.S_reads' Ja.out).1;omega));obtain ⟨ve528_5,rfl,ge528_5⟩:=k50_openM hMe528;have hv528_5:=hcc528 5 _ rfl;rw [add_field _ _ 5 (by omega)] at hv528_5;replace hv528_5:=Option.some.inj (hv528_5.symm.trans hx528_5);rw [hv528_5] at ge528_5;have Oa:=D (show Kd.R k67 67 _ _ _ _ ((rd_T50 y527 x5_1).f1.f2) from ge528_5);clear hv528_5 ge528_5;have HX528_5:=D hx528_5;clear hcc528 hce528;(first|simp only [add_plain] at hx528_0|simp only [add_at] at hx528_0|simp only [Addr.add,Nat.zero_add] at hx528_0|skip);(first|simp only [add_plain] at hx528_1|simp only [add_at] at hx528_1|simp only [Addr.add,Nat.zero_add] at hx528_1|skip);(first|simp only [add_plain] at hx528_2|simp only [add_at] at hx528_2|simp only [Addr.add,Nat.zero_add] at hx528_2|skip);(first|simp only [add_plain] at hx528_3|simp only [add_at] at hx528_3|simp only [Addr.add,Nat.zero_add] at hx528_3|skip);(first|simp only [add_plain] at hx528_4|simp only [add_at] at hx528_4|simp only [Addr.add,Nat.zero_add] at hx528_4|skip);(first|simp only [add_plain] at hx528_5|simp only [add_at] at hx528_5|simp only [Addr.add,Nat.zero_add] at hx528_5|skip);have HR528_5:=D hi528_5;have HC528_5:=D hl528_5;clear hi528_5 hl528_5;replace p528:=eq_true p528;replace q528:=eq_true q528)|((with_reducible refine gate_callee (f:=49) rfl ?_);refine goesL_ (some 61) rfl rfl Try.func49 (by kernel_rfl) rfl #[Y A528_5 ((rd_T50 y527 x5_1).f1.f2).length c528_5,I L (wrap64 ((wrap64 ((wrap64 ((wrap64 ((wrap64 (x1_1 + 1)) + 1)) + 1)) + 1)) + 1))] rfl Z14 ?_;(with_reducible refine (laws_markKidS.calls k1 (fun k_=>some k_=(Y A528_5 ((rd_T50 y527 x5_1).f1.f2).length c528_5:Value).ownBlock) (Y A528_5 ((rd_T50 y527 x5_1).f1.f2).length c528_5) ((rd_T50 y527 x5_1).f1.f2) (wrap64 ((wrap64 ((wrap64 ((wrap64 ((wrap64 (x1_1 + 1)) + 1)) + 1)) + 1)) + 1)) Ua Ma w0 _ ?side1 ?side2 A10.out).mono ?_);(case side1=>exact pB_ HB.out);(case side2=>exact Kd.R_tight rfl Oa.out);rintro e w23 ⟨rfl,hy0,hb,hkp⟩;refine ⟨_,rfl,?_⟩;have hq22:(x5_1:Int) < (y527.length:Int):=(by have h_:(x5_1:Int) < ((x0_1.length:Int):Int):=od_ Z50;first|exact h_|(have e_:=(Kd.S_reads' Ja.out).1;omega)|simpa only [Ny523.out,Ny524.out,Ny525.out,Ny526.out,Ny527.out,List.length_set] using h_);obtain ⟨oki22,ce22,hcl22,hM22,hcc22,hok22,hbk22⟩:=S_borrowK Ja.out z50 (x5_1:Int) (od_ Z50) (by first|exact hq22|(have e_:=(Kd.S_reads' Ja.out).1;omega));obtain ⟨ve22_5,rfl,ge22_5⟩:=k50_openM hM22;have hv22:=hcc22 5 _ rfl;rw [add_field _ _ 5 (by omega)] at hv22;replace hv22:=Option.some.inj (hv22.symm.trans HX528_5.out);subst hv22;clear hcc22 hcl22;replace ge22_5:=(show Kd.R k67 67 _ _ _ _ ((rd_T50 y527 x5_1).f1.f2) from ge22_5);have n_:=an_ (hbk22 hkp (fun k_ e_=>ge22_5.1 k_ e_.symm) (x':=(⟨(rd_T50 y527 x5_1).f0,(⟨(rd_T50 y527 x5_1).f1.f0,(⟨(rd_T50 y527 x5_1).f1.f1.f0,(rd_T50 y527 x5_1).f1.f1.f1,(rd_T50 y527 x5_1).f1.f1.f2⟩:S31),Ma⟩:S34)⟩:S50)) (k50_mkM _ _ _ (⟨(rd_T50 y527 x5_1).f0,(⟨(rd_T50 y527 x5_1).f1.f0,(⟨(rd_T50 y527 x5_1).f1.f1.f0,(rd_T50 y527 x5_1).f1.f1.f1,(rd_T50 y527 x5_1).f1.f1.f2⟩:S31),Ma⟩:S34)⟩:S50) (Kd.R_reok rfl hy0 (fun k_ e_=>ge22_5.1 k_ e_))))<|an_ (Kept.then_ (S:=(fun k_=>P0_ k_)) Z15 hkp (fun k_ hs_=>(fun e_=>(Oa.out.1 k_ e_.symm).1) hs_))<|D (hb);clear Ja HK HB Oa;obtain ⟨Ja,HK,HB⟩:=n_;(try clear hb);(try clear hkp);(try clear hy0);(try clear hok22);(try clear hbk22);(try clear ge22_5)))
     go_roundg k1
     case measure => have := HK1.out; omega
     case rel=>exact ⟨(y527.set (x5_1:Int).toNat (⟨(rd_T50 y527 x5_1).f0,(⟨(rd_T50 y527 x5_1).f1.f0,(⟨(rd_T50 y527 x5_1).f1.f1.f0,(rd_T50 y527 x5_1).f1.f1.f1,(rd_T50 y527 x5_1).f1.f1.f2⟩:S31),Ma⟩:S34)⟩:S50)),(Ua),(wrap64 (x5_1 + 1)),Z51,Z51,H',⟨by have:=HK1.out;omega⟩,⟨pS_ Ja.out⟩,⟨by repeat (first|(with_reducible first|exact HK.out|apply Kept.alloc|apply Kept.drewN|apply Kept.drew)|exact HK.out)⟩,⟨pB_ HB.out⟩⟩
    ·rw [if_neg c4] at H
     exact absurd H (by simp)
   ·rw [if_neg c3] at H
    have c3b0:decide (x5_1 < (x0_1.length:Int))=false:=decide_eq_false c3;clear c3;simp only [Option.some.injEq,Prod.mk.injEq] at H;obtain ⟨rfl,rfl⟩:=H;obtain ⟨Ob,Ub,eo24⟩:=Kd.S_slice Ja.out;subst eo24
    go_wp2
    go_ret;exact ⟨er_,by (with_reducible repeat (first|apply Kd.S_alloc|apply Kd.S_drewN|apply Kd.S_drew));exact Ja.out,pB_ HB.out,by repeat (first|(with_reducible first|exact HK.out|apply Kept.alloc|apply Kept.drewN|apply Kept.drew)|exact HK.out)⟩

/-! ### laws_markTree: function 9 -/
def laws_markTree.f (k : Nat) (a0_0 a0_1 a0_2 a0_3 : Int) (l0_4 : List (S67)) (l0_5 : List (S50)) (a1 : Int) : Option (Int × (List (S67)) × (List (S50))) := (laws_markFair.f k a0_0 a0_1 a0_2 a0_3 l0_4 a1).bind fun bt532 => ((laws_markBranchS.f k l0_5 bt532.1).bind fun bt534 => (some (bt534.1, bt532.2, bt534.2)))
set_option maxHeartbeats 8000000 in
set_option maxRecDepth 100000 in
theorem laws_markTree.calls (k : Nat) (a0_0 a0_1 a0_2 a0_3 : Int) (P0_4_ : Nat → Prop) (u9000_ : Value) (l0_4 : List (S67)) (P0_5_ : Nat → Prop) (u9001_ : Value) (l0_5 : List (S50)) (a1 r1 : Int) (r2 : List (S67)) (r3 : List (S50)) (w0 w : World) (hB : Below w0.heap.size w0 w) (ho0_4 : Kd.R k67 67 w w0.heap.size P0_4_ u9000_ l0_4) (ho0_5 : Kd.S k50 50 w w0.heap.size P0_5_ u9001_ l0_5) (hp0_5_0_4 : ∀ k_, P0_5_ k_ → ¬ P0_4_ k_) (h : laws_markTree.f k a0_0 a0_1 a0_2 a0_3 l0_4 l0_5 a1 = some (r1, r2, r3)) :
  Calls Try.prog 9 #[.agg #[I L a0_0,I L a0_1,I L a0_2,I L a0_3,u9000_,u9001_],I L a1] w fun e w'=>e=.returned (I L r1)∧Kd.R k67 67 w' w0.heap.size (fun k_=>((P0_4_ k_ ∨ P0_5_ k_) ∨ w.heap.size≤k_)) u9000_ r2∧Kd.S k50 50 w' w0.heap.size (fun k_=>((P0_4_ k_ ∨ P0_5_ k_) ∨ w.heap.size≤k_)∧some k_≠(u9000_:Value).ownBlock) u9001_ r3∧Below w0.heap.size w0 w'∧Kept w w' (fun k_=>P0_4_ k_ ∨ P0_5_ k_):=by
 have hu37 := Try.underlying37
 have hu34 := Try.underlying34
 have HO0_4 := D (show Kd.R k67 67 w w0.heap.size (fun k_ => ((P0_4_ k_ ∨ P0_5_ k_) ∨ w.heap.size ≤ k_)) u9000_ l0_4 from Kd.R_mono ho0_4 (fun k_ hk => (.inl (.inl hk))))
 have HO0_5:=D (show Kd.S k50 50 w w0.heap.size (fun k_=>((P0_4_ k_ ∨ P0_5_ k_) ∨ w.heap.size≤k_)∧some k_≠(u9000_:Value).ownBlock) u9001_ l0_5 from Kd.S_mono ho0_5 (fun k_ hk=>⟨(.inl (.inr hk)),fun e_=>hp0_5_0_4 k_ hk (ho0_4.1 k_ e_.symm)⟩))
 have HK := D (Kept.refl w (fun k_ => P0_4_ k_ ∨ P0_5_ k_))
 have HW0 := D hB.size
 have HB := D hB
 clear hB
 have H : ((laws_markFair.f k a0_0 a0_1 a0_2 a0_3 l0_4 a1).bind fun bt532 => ((laws_markBranchS.f k l0_5 bt532.1).bind fun bt534 => (some (bt534.1, bt532.2, bt534.2)))) = some (r1, r2, r3) := h
 clear h
 obtain ⟨⟨t532, t533⟩, A30, H⟩ := bs_.mp H
 (try dsimp only at H)
 have A3 := D A30
 clear A30
 obtain ⟨⟨t534, t535⟩, A40, H⟩ := bs_.mp H
 (try dsimp only at H)
 have A4 := D A40
 clear A40
 simp only [Option.some.injEq, Prod.mk.injEq] at H
 obtain ⟨rfl, rfl, rfl⟩ := H
 obtain ⟨Ao5, co5, eo5⟩ := Kd.R_slice HO0_4.out
 subst eo5
 obtain ⟨Ao6, co6, eo6⟩ := Kd.S_slice HO0_5.out
 subst eo6
 go_enter Try.func9, Try.ntmps9
 go_wp2_with (first|((with_reducible refine gate_dst (N:=2) rfl ?_);refine bx_ (N:=2) (cs:=#[I L a0_0,I L a0_1,I L a0_2,I L a0_3,Y Ao5 l0_4.length co5,Y Ao6 l0_5.length co6]) (t:=37) ?_;intro gb531 hg w7 hbox hb;have n_:=an_ (Kd.R_below (pR_ HO0_4.out) hb)<|an_ (Kd.S_below (pS_ HO0_5.out) hb)<|an_ (Kept.below (S:=(fun k_=>P0_4_ k_ ∨ P0_5_ k_)) Z15 hb)<|an_ (below_step (pB_ HB.out) hb)<|an_ (hbox)<|an_ ((by rw [hg];exact (by first|exact HK.out.1|exact (show Kept w _ (fun k_=>P0_4_ k_ ∨ P0_5_ k_) from by repeat (first|(with_reducible first|exact HK.out|apply Kept.alloc|apply Kept.drewN|apply Kept.drew)|exact HK.out)).1):w.heap.size≤gb531))<|D (by rw [hg];exact (below_size (pB_ HB.out)):w0.heap.size≤gb531);clear HO0_4 HO0_5 HK HB;obtain ⟨HO0_4,HO0_5,HK,HB,BK531,GW531,GE531⟩:=n_;clear hb hbox hg;have hcz8_0:=cells6 BK531.out)|((with_reducible refine gate_callee (f:=24) rfl ?_);refine goesL_ (some 8) rfl rfl Try.func24 (by kernel_rfl) rfl #[.agg #[I L a0_0,I L a0_1,I L a0_2,I L a0_3,Y Ao5 l0_4.length co5],I L a1] rfl Z14 ?_;(with_reducible refine (laws_markFair.calls k a0_0 a0_1 a0_2 a0_3 (fun k_=>some k_=(Y Ao5 l0_4.length co5:Value).ownBlock) (Y Ao5 l0_4.length co5) l0_4 a1 t532 t533 w0 _ ?side1 ?side2 A3.out).mono ?_);(case side1=>exact pB_ HB.out);(case side2=>exact Kd.R_tight rfl HO0_4.out);rintro e w9 ⟨rfl,hy0,hb,hkp⟩;refine ⟨_,rfl,?_⟩;have n_:=an_ (Kd.R_reok rfl hy0 (fun k_ e_=>HO0_4.out.1 k_ e_))<|an_ (Kd.S_mono (ok':=fun k_=>((P0_4_ k_ ∨ P0_5_ k_) ∨ w.heap.size≤k_)∧some k_≠(Y Ao5 l0_4.length co5:Value).ownBlock) (Kd.S_keptB (HO0_5.out) hkp (fun k_ hk_ hs_=>(hk_.2) hs_)) (fun k_ hk_=>⟨hk_.1.1,hk_.1.2⟩))<|an_ (blk_kept (pk_ BK531.out) hkp (fun hs_=>(fun e_=>(Kd.R_ne HO0_4.out BK531.out (by decide)) e_) hs_))<|an_ (Kept.then_ (S:=(fun k_=>P0_4_ k_ ∨ P0_5_ k_)) Z13 hkp (fun k_ hs_=>(fun e_=>(HO0_4.out.1 k_ e_.symm)) hs_))<|D (hb);clear HO0_4 HO0_5 BK531 HK HB;obtain ⟨HO0_4,HO0_5,BK531,HK,HB⟩:=n_;(try clear hb);(try clear hkp);(try clear hy0);have hcz10_0:=cells6 BK531.out)|((with_reducible refine gate_callee (f:=25) rfl ?_);refine goesL_ (some 12) rfl rfl Try.func25 (by kernel_rfl) rfl #[Y Ao6 l0_5.length co6,I L t532] rfl Z14 ?_;(with_reducible refine (laws_markBranchS.calls k (fun k_=>((((P0_4_ k_ ∨ P0_5_ k_) ∨ w.heap.size≤k_)∧some k_≠(Y Ao5 l0_4.length co5:Value).ownBlock)∧k_≠gb531)) (Y Ao6 l0_5.length co6) l0_5 t532 t534 t535 w0 _ ?side1 ?side2 A4.out).mono ?_);(case side1=>exact pB_ HB.out);(case side2=>exact (Kd.S_types HO0_5.out BK531.out (by decide)));rintro e w11 ⟨rfl,hy0,hb,hkp⟩;refine ⟨_,rfl,?_⟩;have n_:=an_ (Kd.R_mono (ok':=fun k_=>((P0_4_ k_ ∨ P0_5_ k_) ∨ w.heap.size≤k_)) (Kd.R_keptB ((Kd.R_mono (ok':=(fun k_=>((P0_4_ k_ ∨ P0_5_ k_) ∨ w.heap.size≤k_)∧¬ ((((P0_4_ k_ ∨ P0_5_ k_) ∨ w.heap.size≤k_)∧some k_≠(Y Ao5 l0_4.length co5:Value).ownBlock)∧k_≠gb531))) (Kd.R_tight2 rfl HO0_4.out) (fun k_ hk=>⟨hk.2,fun e_=>(e_.1.2) hk.1⟩))) hkp (fun k_ hk_ hs_=>(hk_.2) hs_)) (fun k_ hk_=>hk_.1.1))<|an_ (Kd.S_mono (ok':=fun k_=>((P0_4_ k_ ∨ P0_5_ k_) ∨ w.heap.size≤k_)∧some k_≠(Y Ao5 l0_4.length co5:Value).ownBlock∧k_≠gb531) hy0 (fun k_ hk=>Or.elim hk (fun e_=>⟨e_.1.1,e_.1.2,e_.2⟩) (fun hn_=>⟨.inr (Nat.le_trans (by first|exact HK.out.1|exact (show Kept w _ (fun k_=>P0_4_ k_ ∨ P0_5_ k_) from by repeat (first|(with_reducible first|exact HK.out|apply Kept.alloc|apply Kept.drewN|apply Kept.drew|refine Kept.setCell ?_ (.inr GW531.out) _)|exact HK.out)).1) hn_),(Kd.fresh' (Kd.R_lt (pR_ HO0_4.out)) k_ hn_),(Kd.freshB (pk_ BK531.out) k_ hn_)⟩)))<|an_ (blk_kept (pk_ BK531.out) hkp (fun hs_=>(fun e_=>(e_.2) rfl) hs_))<|an_ (Kept.then_ (S:=(fun k_=>P0_4_ k_ ∨ P0_5_ k_)) Z13 hkp (fun k_ hs_=>(fun e_=>e_.1.1) hs_))<|D (hb);clear HO0_4 HO0_5 BK531 HK HB;obtain ⟨HO0_4,HO0_5,BK531,HK,HB⟩:=n_;(try clear hb);(try clear hkp);(try clear hy0)))
 go_ret
 exact ⟨er_,by (with_reducible repeat (first|apply Kd.R_alloc|apply Kd.R_drewN|apply Kd.R_drew));exact HO0_4.out,by (with_reducible repeat (first|apply Kd.S_alloc|apply Kd.S_drewN|apply Kd.S_drew));exact Kd.S_mono HO0_5.out (fun _ hk=>⟨hk.1,hk.2.1⟩),pB_ HB.out,by repeat (first|(with_reducible first|exact HK.out|apply Kept.alloc|apply Kept.drewN|apply Kept.drew|refine Kept.setCell ?_ (.inr GW531.out) _)|exact HK.out)⟩

/-! ### laws_heldKidS: function 50 -/
def laws_heldKidS.l0 : Nat → List (S67) → Int → Int → Option (Int)
 | 0, _, _, _ => none
 | k + 1,x0,x1,x5=>if x5 < (x0.length:Int) then (if 0≤x5 then (if ((rd_T67 x0 x5).f0)=x1 then (if ((rd_T67 x0 x5).f1)=(wrap64 (x1 + 1)) then (if (((rd_T67 x0 x5).f2) != ((Int.tmod (wrap64 ((wrap64 (x1 + 1)) + 1)) 3) == 0))=true then (some (-1)) else (if ((rd_T67 x0 x5).f3.f0)=(wrap64 ((wrap64 ((wrap64 (x1 + 1)) + 1)) + 1)) then (if ((rd_T67 x0 x5).f3.f1)=(wrap64 ((wrap64 ((wrap64 ((wrap64 (x1 + 1)) + 1)) + 1)) + 1)) then (if ((rd_T67 x0 x5).f3.f2)=(wrap64 ((wrap64 ((wrap64 ((wrap64 ((wrap64 (x1 + 1)) + 1)) + 1)) + 1)) + 1)) then (laws_heldKidS.l0 k x0 (wrap64 ((wrap64 ((wrap64 ((wrap64 ((wrap64 ((wrap64 (x1 + 1)) + 1)) + 1)) + 1)) + 1)) + 1)) (wrap64 (x5 + 1))) else (some (-1))) else (some (-1))) else (some (-1)))) else (some (-1))) else (some (-1))) else (none)) else (some x1)
def laws_heldKidS.f (k : Nat) (l0 : List (S67)) (a1 : Int) : Option (Int) := laws_heldKidS.l0 k l0 a1 0
set_option maxHeartbeats 8000000 in
set_option maxRecDepth 100000 in
theorem laws_heldKidS.calls (k : Nat) (A0 : Option Addr) (c0 : Nat) (l0 : List (S67)) (a1 r : Int) (w : World) (hr0 : Kd.C k67 w A0 l0.length l0) (hc0 : l0.length ≤ c0) (h : laws_heldKidS.f k l0 a1 = some r) :
  Calls Try.prog 50 #[Y A0 l0.length c0, I L a1] w fun e w' => e = .returned (I L r) ∧ Drawn0 w w' := by
 have HR0 := D hr0
 have HC0 := D hc0
 clear hr0 hc0
 have H : (laws_heldKidS.l0 k l0 a1 0) = some r := h
 clear h
 have H' := D H
 clear H
 go_enter Try.func50, Try.ntmps50
 go_wp2
 go_loopg [1, 5] k (fun kq v1 v5 w' => ∃ (x1_1 : Int) (x5_1 : Int), v1 = I L x1_1 ∧ v5 = I L x5_1 ∧ Aside0 (laws_heldKidS.l0 kq l0 x1_1 x5_1 = some r) ∧ Aside0 (kq ≤ k) ∧ Drawn0 w w')
 case atStart => exact ⟨(a1), (0), Z51, Z51, H', ⟨Nat.le_refl _⟩, by repeat (first | exact Drawn0.refl _ | apply Drawn0.step)⟩
 case round =>
  clear H'
  try clear p2
  obtain ⟨x1_1, x5_1, rfl, rfl, HA, HK1, ⟨m1, rfl⟩⟩ := hrel
  cases gk with
  | zero => exact absurd HA.out (by simp [laws_heldKidS.l0])
  | succ k1 =>
   have H := HA.out; clear HA; simp only [laws_heldKidS.l0] at H
   by_cases c3 : x5_1 < (l0.length : Int)
   ·rw [if_pos c3] at H
    have c3b0 : decide (x5_1 < (l0.length : Int)) = true := decide_eq_true c3; clear c3
    by_cases c4 : 0 ≤ x5_1
    ·rw [if_pos c4] at H
     have c4b0:decide (0≤x5_1)=true:=decide_eq_true c4;clear c4;have HU5:=D H;clear H;have p536:0≤(x5_1:Int):=od_ Z50;have q536:x5_1 < (l0.length:Int):=od_ Z50;obtain ⟨ad536,e536,hx536_0,hx536_1,hx536_2,hx536_3,hx536_4,hx536_5⟩:=at_T67 HR0.out x5_1 p536 q536;cases e536;replace p536:=eq_true p536;replace q536:=eq_true q536
     go_upto_if 18 with (fail)
     have H := HU5.out; clear HU5
     by_cases c6 : ((rd_T67 l0 x5_1).f0) = x1_1
     ·rw [if_pos c6] at H
      have c6b0:(((rd_T67 l0 x5_1).f0) == x1_1)=true:=beq_iff_eq.mpr c6;have c6b1:(((rd_T67 l0 x5_1).f0) != x1_1)=false:=bne_eq_false_iff_eq.mpr c6;clear c6;refine rw_ c6b0 ?_;have HU7:=D H;clear H;have p537:0≤(x5_1:Int):=od_ Z50;have q537:x5_1 < (l0.length:Int):=od_ Z50;obtain ⟨ad537,e537,hx537_0,hx537_1,hx537_2,hx537_3,hx537_4,hx537_5⟩:=at_T67 HR0.out x5_1 p537 q537;obtain rfl:ad536=ad537:=(by injection e537);replace p537:=eq_true p537;replace q537:=eq_true q537
      go_upto_if 27 with (fail)
      have H := HU7.out; clear HU7
      by_cases c8 : ((rd_T67 l0 x5_1).f1) = (wrap64 (x1_1 + 1))
      ·rw [if_pos c8] at H
       have c8b0:(((rd_T67 l0 x5_1).f1) == (wrap64 (x1_1 + 1)))=true:=beq_iff_eq.mpr c8;have c8b1:(((rd_T67 l0 x5_1).f1) != (wrap64 (x1_1 + 1)))=false:=bne_eq_false_iff_eq.mpr c8;clear c8;refine rw_ c8b0 ?_;have HU9:=D H;clear H;have p538:0≤(x5_1:Int):=od_ Z50;have q538:x5_1 < (l0.length:Int):=od_ Z50;obtain ⟨ad538,e538,hx538_0,hx538_1,hx538_2,hx538_3,hx538_4,hx538_5⟩:=at_T67 HR0.out x5_1 p538 q538;obtain rfl:ad536=ad538:=(by injection e538);replace p538:=eq_true p538;replace q538:=eq_true q538
       go_upto_if 38 with (fail)
       have H := HU9.out; clear HU9
       by_cases c10 : (((rd_T67 l0 x5_1).f2) != ((Int.tmod (wrap64 ((wrap64 (x1_1 + 1)) + 1)) 3) == 0)) = true
       ·rw [if_pos c10] at H
        have c10b0:(((rd_T67 l0 x5_1).f2) != ((Int.tmod (wrap64 ((wrap64 (x1_1 + 1)) + 1)) 3) == 0))=true:=c10;(try (have c10b1:decide (((rd_T67 l0 x5_1).f2)=((Int.tmod (wrap64 ((wrap64 (x1_1 + 1)) + 1)) 3) == 0))=false:=by simpa using c10));(try (have c10b2:(((rd_T67 l0 x5_1).f2) == ((Int.tmod (wrap64 ((wrap64 (x1_1 + 1)) + 1)) 3) == 0))=false:=by simpa using c10));(try (have c10b3:¬ (((rd_T67 l0 x5_1).f2)=((Int.tmod (wrap64 ((wrap64 (x1_1 + 1)) + 1)) 3) == 0)):=by simpa using c10));clear c10;refine rw_ c10b0 ?_;obtain rfl:=Option.some.inj H
        go_wp2
        go_ret; exact ⟨by first | rfl | (simp; done) | (simp [*]; done), by repeat (first | exact Drawn0.refl _ | apply Drawn0.step)⟩
       ·rw [if_neg c10] at H
        have c10b0 : (((rd_T67 l0 x5_1).f2) != ((Int.tmod (wrap64 ((wrap64 (x1_1 + 1)) + 1)) 3) == 0)) = false := by simpa using c10
        (try (have c10b1:decide (((rd_T67 l0 x5_1).f2)=((Int.tmod (wrap64 ((wrap64 (x1_1 + 1)) + 1)) 3) == 0))=true:=by simpa using c10));(try (have c10b2:(((rd_T67 l0 x5_1).f2) == ((Int.tmod (wrap64 ((wrap64 (x1_1 + 1)) + 1)) 3) == 0))=true:=by simpa using c10));clear c10;refine rw_ c10b0 ?_;have HU11:=D H;clear H;have p539:0≤(x5_1:Int):=od_ Z50;have q539:x5_1 < (l0.length:Int):=od_ Z50;obtain ⟨ad539,e539,hx539_0,hx539_1,hx539_2,hx539_3,hx539_4,hx539_5⟩:=at_T67 HR0.out x5_1 p539 q539;obtain rfl:ad536=ad539:=(by injection e539);replace p539:=eq_true p539;replace q539:=eq_true q539
        go_upto_if 48 with (fail)
        have H := HU11.out; clear HU11
        by_cases c12 : ((rd_T67 l0 x5_1).f3.f0) = (wrap64 ((wrap64 ((wrap64 (x1_1 + 1)) + 1)) + 1))
        ·rw [if_pos c12] at H
         have c12b0:(((rd_T67 l0 x5_1).f3.f0) == (wrap64 ((wrap64 ((wrap64 (x1_1 + 1)) + 1)) + 1)))=true:=beq_iff_eq.mpr c12;have c12b1:(((rd_T67 l0 x5_1).f3.f0) != (wrap64 ((wrap64 ((wrap64 (x1_1 + 1)) + 1)) + 1)))=false:=bne_eq_false_iff_eq.mpr c12;clear c12;refine rw_ c12b0 ?_;have HU13:=D H;clear H;have p540:0≤(x5_1:Int):=od_ Z50;have q540:x5_1 < (l0.length:Int):=od_ Z50;obtain ⟨ad540,e540,hx540_0,hx540_1,hx540_2,hx540_3,hx540_4,hx540_5⟩:=at_T67 HR0.out x5_1 p540 q540;obtain rfl:ad536=ad540:=(by injection e540);replace p540:=eq_true p540;replace q540:=eq_true q540
         go_upto_if 58 with (fail)
         have H := HU13.out; clear HU13
         by_cases c14 : ((rd_T67 l0 x5_1).f3.f1) = (wrap64 ((wrap64 ((wrap64 ((wrap64 (x1_1 + 1)) + 1)) + 1)) + 1))
         ·rw [if_pos c14] at H
          have c14b0:(((rd_T67 l0 x5_1).f3.f1) == (wrap64 ((wrap64 ((wrap64 ((wrap64 (x1_1 + 1)) + 1)) + 1)) + 1)))=true:=beq_iff_eq.mpr c14;have c14b1:(((rd_T67 l0 x5_1).f3.f1) != (wrap64 ((wrap64 ((wrap64 ((wrap64 (x1_1 + 1)) + 1)) + 1)) + 1)))=false:=bne_eq_false_iff_eq.mpr c14;clear c14;refine rw_ c14b0 ?_;have HU15:=D H;clear H;have p541:0≤(x5_1:Int):=od_ Z50;have q541:x5_1 < (l0.length:Int):=od_ Z50;obtain ⟨ad541,e541,hx541_0,hx541_1,hx541_2,hx541_3,hx541_4,hx541_5⟩:=at_T67 HR0.out x5_1 p541 q541;obtain rfl:ad536=ad541:=(by injection e541);replace p541:=eq_true p541;replace q541:=eq_true q541
          go_upto_if 68 with (fail)
          have H := HU15.out; clear HU15
          by_cases c16 : ((rd_T67 l0 x5_1).f3.f2) = (wrap64 ((wrap64 ((wrap64 ((wrap64 ((wrap64 (x1_1 + 1)) + 1)) + 1)) + 1)) + 1))
          ·rw [if_pos c16] at H
           have c16b0:(((rd_T67 l0 x5_1).f3.f2) == (wrap64 ((wrap64 ((wrap64 ((wrap64 ((wrap64 (x1_1 + 1)) + 1)) + 1)) + 1)) + 1)))=true:=beq_iff_eq.mpr c16;have c16b1:(((rd_T67 l0 x5_1).f3.f2) != (wrap64 ((wrap64 ((wrap64 ((wrap64 ((wrap64 (x1_1 + 1)) + 1)) + 1)) + 1)) + 1)))=false:=bne_eq_false_iff_eq.mpr c16;clear c16;refine rw_ c16b0 ?_;have H':=D H;clear H
           go_wp2
           go_roundg k1
           case measure => have := HK1.out; omega
           case rel=>exact ⟨(wrap64 ((wrap64 ((wrap64 ((wrap64 ((wrap64 ((wrap64 (x1_1 + 1)) + 1)) + 1)) + 1)) + 1)) + 1)),(wrap64 (x5_1 + 1)),Z51,Z51,H',⟨by have:=HK1.out;omega⟩,by repeat (first|exact Drawn0.refl _|apply Drawn0.step)⟩
          ·rw [if_neg c16] at H
           have c16b0:(((rd_T67 l0 x5_1).f3.f2) == (wrap64 ((wrap64 ((wrap64 ((wrap64 ((wrap64 (x1_1 + 1)) + 1)) + 1)) + 1)) + 1)))=false:=beq_eq_false_iff_ne.mpr c16;have c16b1:(((rd_T67 l0 x5_1).f3.f2) != (wrap64 ((wrap64 ((wrap64 ((wrap64 ((wrap64 (x1_1 + 1)) + 1)) + 1)) + 1)) + 1)))=true:=bne_iff_ne.mpr c16;refine rw_ c16b0 ?_;obtain rfl:=Option.some.inj H
           go_wp2
           go_ret; exact ⟨by first | rfl | (simp; done) | (simp [*]; done), by repeat (first | exact Drawn0.refl _ | apply Drawn0.step)⟩
         ·rw [if_neg c14] at H
          have c14b0:(((rd_T67 l0 x5_1).f3.f1) == (wrap64 ((wrap64 ((wrap64 ((wrap64 (x1_1 + 1)) + 1)) + 1)) + 1)))=false:=beq_eq_false_iff_ne.mpr c14;have c14b1:(((rd_T67 l0 x5_1).f3.f1) != (wrap64 ((wrap64 ((wrap64 ((wrap64 (x1_1 + 1)) + 1)) + 1)) + 1)))=true:=bne_iff_ne.mpr c14;refine rw_ c14b0 ?_;obtain rfl:=Option.some.inj H
          go_wp2
          go_ret; exact ⟨by first | rfl | (simp; done) | (simp [*]; done), by repeat (first | exact Drawn0.refl _ | apply Drawn0.step)⟩
        ·rw [if_neg c12] at H
         have c12b0:(((rd_T67 l0 x5_1).f3.f0) == (wrap64 ((wrap64 ((wrap64 (x1_1 + 1)) + 1)) + 1)))=false:=beq_eq_false_iff_ne.mpr c12;have c12b1:(((rd_T67 l0 x5_1).f3.f0) != (wrap64 ((wrap64 ((wrap64 (x1_1 + 1)) + 1)) + 1)))=true:=bne_iff_ne.mpr c12;refine rw_ c12b0 ?_;obtain rfl:=Option.some.inj H
         go_wp2
         go_ret; exact ⟨by first | rfl | (simp; done) | (simp [*]; done), by repeat (first | exact Drawn0.refl _ | apply Drawn0.step)⟩
      ·rw [if_neg c8] at H
       have c8b0:(((rd_T67 l0 x5_1).f1) == (wrap64 (x1_1 + 1)))=false:=beq_eq_false_iff_ne.mpr c8;have c8b1:(((rd_T67 l0 x5_1).f1) != (wrap64 (x1_1 + 1)))=true:=bne_iff_ne.mpr c8;refine rw_ c8b0 ?_;obtain rfl:=Option.some.inj H
       go_wp2
       go_ret; exact ⟨by first | rfl | (simp; done) | (simp [*]; done), by repeat (first | exact Drawn0.refl _ | apply Drawn0.step)⟩
     ·rw [if_neg c6] at H
      have c6b0:(((rd_T67 l0 x5_1).f0) == x1_1)=false:=beq_eq_false_iff_ne.mpr c6;have c6b1:(((rd_T67 l0 x5_1).f0) != x1_1)=true:=bne_iff_ne.mpr c6;refine rw_ c6b0 ?_;obtain rfl:=Option.some.inj H
      go_wp2
      go_ret; exact ⟨by first | rfl | (simp; done) | (simp [*]; done), by repeat (first | exact Drawn0.refl _ | apply Drawn0.step)⟩
    ·rw [if_neg c4] at H
     exact absurd H (by simp)
   ·rw [if_neg c3] at H
    have c3b0 : decide (x5_1 < (l0.length : Int)) = false := decide_eq_false c3; clear c3; obtain rfl := Option.some.inj H
    go_wp2
    go_ret; exact ⟨by first | rfl | (simp; done) | (simp [*]; done), by repeat (first | exact Drawn0.refl _ | apply Drawn0.step)⟩

/-! ### laws_heldFair: function 26 -/
def laws_heldFair.f (k : Nat) (a0_0 a0_1 a0_2 a0_3 : Int) (l0_4 : List (S67)) (a1 : Int) : Option (Int) := (laws_heldKidS.f k l0_4 a1).bind fun t543 => (if t543 < 0 then (some (-1)) else (some t543))
set_option maxHeartbeats 8000000 in
set_option maxRecDepth 100000 in
theorem laws_heldFair.calls (k : Nat) (a0_0 a0_1 a0_2 a0_3 : Int) (A0_4 : Option Addr) (c0_4 : Nat) (l0_4 : List (S67)) (a1 r : Int) (w : World) (hr0_4 : Kd.C k67 w A0_4 l0_4.length l0_4) (hc0_4 : l0_4.length ≤ c0_4) (h : laws_heldFair.f k a0_0 a0_1 a0_2 a0_3 l0_4 a1 = some r) :
  Calls Try.prog 26 #[.agg #[I L a0_0,I L a0_1,I L a0_2,I L a0_3,Y A0_4 l0_4.length c0_4],I L a1] w fun e w'=>e=.returned (I L r)∧Below w.heap.size w w':=by
 have hu34 := Try.underlying34
 have HR0_4 := D hr0_4
 have HC0_4 := D hc0_4
 clear hr0_4 hc0_4
 have HB := D (Below.refl w.heap.size w)
 have H : ((laws_heldKidS.f k l0_4 a1).bind fun t543 => (if t543 < 0 then (some (-1)) else (some t543))) = some r := h
 clear h
 obtain ⟨t543, A30, H⟩ := bs_.mp H
 (try dsimp only at H)
 have A3 := D A30
 clear A30
 have HU4 := D H
 clear H
 go_enter Try.func26, Try.ntmps26
 go_upto_if 10 with (first|((with_reducible refine gate_dst (N:=2) rfl ?_);refine bx_ (N:=2) (cs:=#[I L a0_0,I L a0_1,I L a0_2,I L a0_3,Y A0_4 l0_4.length c0_4]) (t:=34) ?_;intro gb542 hg w5 hbox hb;have n_:=an_ (below_step (pB_ HB.out) hb)<|an_ (hbox)<|an_ (bg_ hg (pB_ HB.out):w.heap.size≤gb542)<|D (bg_ hg (pB_ HB.out):w.heap.size≤gb542);clear HB;obtain ⟨HB,BK542,GW542,GE542⟩:=n_;clear hb hbox hg;have hcz6_0:=cells5 BK542.out)|((with_reducible refine gate_callee (f:=50) rfl ?_);refine goesL_ (some 8) rfl rfl Try.func50 (by kernel_rfl) rfl #[Y A0_4 l0_4.length c0_4,I L a1] rfl Z14 ?_;(with_reducible refine (laws_heldKidS.calls k _ _ l0_4 a1 t543 _ ?side1 ?side2 A3.out).mono ?_);(case side1=>exact pC_ (Kd.C_below HR0_4.out HB.out));(case side2=>exact HC0_4.out);rintro e w' ⟨rfl,⟨nd,rfl⟩⟩;refine ⟨_,rfl,?_⟩))
 have H := HU4.out
 clear HU4
 by_cases c7 : t543 < 0
 ·rw [if_pos c7] at H
  have c7b0:decide (t543 < 0)=true:=decide_eq_true c7;clear c7;refine rw_ c7b0 ?_;obtain rfl:=Option.some.inj H
  go_wp2
  go_ret; exact ⟨er_, pB_ HB.out⟩
 ·rw [if_neg c7] at H
  have c7b0:decide (t543 < 0)=false:=decide_eq_false c7;clear c7;refine rw_ c7b0 ?_;obtain rfl:=Option.some.inj H
  go_wp2
  go_ret; exact ⟨er_, pB_ HB.out⟩

/-! ### laws_heldBranchS: function 27 -/
def laws_heldBranchS.l0 : Nat → List (S50) → Int → Int → Option (Int)
 | 0, _, _, _ => none
 | k + 1,x0,x1,x5=>if x5 < (x0.length:Int) then (if 0≤x5 then (if ((rd_T50 x0 x5).f0)=x1 then (if ((rd_T50 x0 x5).f1.f0)=(wrap64 (x1 + 1)) then (if ((rd_T50 x0 x5).f1.f1.f0)=(wrap64 ((wrap64 (x1 + 1)) + 1)) then (if ((rd_T50 x0 x5).f1.f1.f1)=(wrap64 ((wrap64 ((wrap64 (x1 + 1)) + 1)) + 1)) then (if ((rd_T50 x0 x5).f1.f1.f2)=(wrap64 ((wrap64 ((wrap64 ((wrap64 (x1 + 1)) + 1)) + 1)) + 1)) then ((laws_heldKidS.f k ((rd_T50 x0 x5).f1.f2) (wrap64 ((wrap64 ((wrap64 ((wrap64 ((wrap64 (x1 + 1)) + 1)) + 1)) + 1)) + 1))).bind fun t550=>(if t550 < 0 then (some (-1)) else (laws_heldBranchS.l0 k x0 t550 (wrap64 (x5 + 1))))) else (some (-1))) else (some (-1))) else (some (-1))) else (some (-1))) else (some (-1))) else (none)) else (some x1)
def laws_heldBranchS.f (k : Nat) (l0 : List (S50)) (a1 : Int) : Option (Int) := laws_heldBranchS.l0 k l0 a1 0
set_option maxHeartbeats 8000000 in
set_option maxRecDepth 100000 in
theorem laws_heldBranchS.calls (k : Nat) (A0 : Option Addr) (c0 : Nat) (l0 : List (S50)) (a1 r : Int) (w : World) (hr0 : Kd.C k50 w A0 l0.length l0) (hc0 : l0.length ≤ c0) (h : laws_heldBranchS.f k l0 a1 = some r) :
  Calls Try.prog 27 #[Y A0 l0.length c0, I L a1] w fun e w' => e = .returned (I L r) ∧ Drawn0 w w' := by
 have HR0 := D hr0
 have HC0 := D hc0
 clear hr0 hc0
 have H : (laws_heldBranchS.l0 k l0 a1 0) = some r := h
 clear h
 have H' := D H
 clear H
 go_enter Try.func27, Try.ntmps27
 go_wp2
 go_loopg [1, 5] k (fun kq v1 v5 w' => ∃ (x1_1 : Int) (x5_1 : Int), v1 = I L x1_1 ∧ v5 = I L x5_1 ∧ Aside0 (laws_heldBranchS.l0 kq l0 x1_1 x5_1 = some r) ∧ Aside0 (kq ≤ k) ∧ Drawn0 w w')
 case atStart => exact ⟨(a1), (0), Z51, Z51, H', ⟨Nat.le_refl _⟩, by repeat (first | exact Drawn0.refl _ | apply Drawn0.step)⟩
 case round =>
  clear H'
  (try clear c2);(try clear p2)
  obtain ⟨x1_1, x5_1, rfl, rfl, HA, HK1, ⟨m1, rfl⟩⟩ := hrel
  cases gk with
  | zero => exact absurd HA.out (by simp [laws_heldBranchS.l0])
  | succ k1 =>
   have H := HA.out; clear HA; simp only [laws_heldBranchS.l0] at H
   by_cases c3 : x5_1 < (l0.length : Int)
   ·rw [if_pos c3] at H
    have c3b0 : decide (x5_1 < (l0.length : Int)) = true := decide_eq_true c3; clear c3
    by_cases c4 : 0 ≤ x5_1
    ·rw [if_pos c4] at H
     have c4b0:decide (0≤x5_1)=true:=decide_eq_true c4;clear c4;have HU5:=D H;clear H;have p544:0≤(x5_1:Int):=od_ Z50;have q544:x5_1 < (l0.length:Int):=od_ Z50;obtain ⟨ad544,A544_5,c544_5,e544,hx544_0,hx544_1,hx544_2,hx544_3,hx544_4,hx544_5,hl544_5,hi544_5⟩:=at_T50 HR0.out x5_1 p544 q544;cases e544;have HR544_5:=D hi544_5;have HC544_5:=D hl544_5;clear hi544_5 hl544_5;replace p544:=eq_true p544;replace q544:=eq_true q544
     go_upto_if 18 with (fail)
     have H := HU5.out; clear HU5
     by_cases c6 : ((rd_T50 l0 x5_1).f0) = x1_1
     ·rw [if_pos c6] at H
      have c6b0:(((rd_T50 l0 x5_1).f0) == x1_1)=true:=beq_iff_eq.mpr c6;have c6b1:(((rd_T50 l0 x5_1).f0) != x1_1)=false:=bne_eq_false_iff_eq.mpr c6;clear c6;refine rw_ c6b0 ?_;have HU7:=D H;clear H;have p545:0≤(x5_1:Int):=od_ Z50;have q545:x5_1 < (l0.length:Int):=od_ Z50;obtain ⟨ad545,A545_5,c545_5,e545,hx545_0,hx545_1,hx545_2,hx545_3,hx545_4,hx545_5,hl545_5,hi545_5⟩:=at_T50 HR0.out x5_1 p545 q545;obtain rfl:ad544=ad545:=(by injection e545);have HR545_5:=D hi545_5;have HC545_5:=D hl545_5;clear hi545_5 hl545_5;replace p545:=eq_true p545;replace q545:=eq_true q545;have ea_:=Option.some.inj (hx544_5.symm.trans hx545_5)
      injection ea_ with ea_ en_ ec_
      subst ea_; subst ec_; clear en_
      go_upto_if 28 with (fail)
      have H := HU7.out; clear HU7
      by_cases c8 : ((rd_T50 l0 x5_1).f1.f0) = (wrap64 (x1_1 + 1))
      ·rw [if_pos c8] at H
       have c8b0:(((rd_T50 l0 x5_1).f1.f0) == (wrap64 (x1_1 + 1)))=true:=beq_iff_eq.mpr c8;have c8b1:(((rd_T50 l0 x5_1).f1.f0) != (wrap64 (x1_1 + 1)))=false:=bne_eq_false_iff_eq.mpr c8;clear c8;refine rw_ c8b0 ?_;have HU9:=D H;clear H;have p546:0≤(x5_1:Int):=od_ Z50;have q546:x5_1 < (l0.length:Int):=od_ Z50;obtain ⟨ad546,A546_5,c546_5,e546,hx546_0,hx546_1,hx546_2,hx546_3,hx546_4,hx546_5,hl546_5,hi546_5⟩:=at_T50 HR0.out x5_1 p546 q546;obtain rfl:ad544=ad546:=(by injection e546);have HR546_5:=D hi546_5;have HC546_5:=D hl546_5;clear hi546_5 hl546_5;replace p546:=eq_true p546;replace q546:=eq_true q546;have ea_:=Option.some.inj (hx544_5.symm.trans hx546_5)
       injection ea_ with ea_ en_ ec_
       subst ea_; subst ec_; clear en_
       go_upto_if 39 with (fail)
       have H := HU9.out; clear HU9
       by_cases c10 : ((rd_T50 l0 x5_1).f1.f1.f0) = (wrap64 ((wrap64 (x1_1 + 1)) + 1))
       ·rw [if_pos c10] at H
        have c10b0:(((rd_T50 l0 x5_1).f1.f1.f0) == (wrap64 ((wrap64 (x1_1 + 1)) + 1)))=true:=beq_iff_eq.mpr c10;have c10b1:(((rd_T50 l0 x5_1).f1.f1.f0) != (wrap64 ((wrap64 (x1_1 + 1)) + 1)))=false:=bne_eq_false_iff_eq.mpr c10;clear c10;refine rw_ c10b0 ?_;have HU11:=D H;clear H;have p547:0≤(x5_1:Int):=od_ Z50;have q547:x5_1 < (l0.length:Int):=od_ Z50;obtain ⟨ad547,A547_5,c547_5,e547,hx547_0,hx547_1,hx547_2,hx547_3,hx547_4,hx547_5,hl547_5,hi547_5⟩:=at_T50 HR0.out x5_1 p547 q547;obtain rfl:ad544=ad547:=(by injection e547);have HR547_5:=D hi547_5;have HC547_5:=D hl547_5;clear hi547_5 hl547_5;replace p547:=eq_true p547;replace q547:=eq_true q547;have ea_:=Option.some.inj (hx544_5.symm.trans hx547_5)
        injection ea_ with ea_ en_ ec_
        subst ea_; subst ec_; clear en_
        go_upto_if 50 with (fail)
        have H := HU11.out; clear HU11
        by_cases c12 : ((rd_T50 l0 x5_1).f1.f1.f1) = (wrap64 ((wrap64 ((wrap64 (x1_1 + 1)) + 1)) + 1))
        ·rw [if_pos c12] at H
         have c12b0:(((rd_T50 l0 x5_1).f1.f1.f1) == (wrap64 ((wrap64 ((wrap64 (x1_1 + 1)) + 1)) + 1)))=true:=beq_iff_eq.mpr c12;have c12b1:(((rd_T50 l0 x5_1).f1.f1.f1) != (wrap64 ((wrap64 ((wrap64 (x1_1 + 1)) + 1)) + 1)))=false:=bne_eq_false_iff_eq.mpr c12;clear c12;refine rw_ c12b0 ?_;have HU13:=D H;clear H;have p548:0≤(x5_1:Int):=od_ Z50;have q548:x5_1 < (l0.length:Int):=od_ Z50;obtain ⟨ad548,A548_5,c548_5,e548,hx548_0,hx548_1,hx548_2,hx548_3,hx548_4,hx548_5,hl548_5,hi548_5⟩:=at_T50 HR0.out x5_1 p548 q548;obtain rfl:ad544=ad548:=(by injection e548);have HR548_5:=D hi548_5;have HC548_5:=D hl548_5;clear hi548_5 hl548_5;replace p548:=eq_true p548;replace q548:=eq_true q548;have ea_:=Option.some.inj (hx544_5.symm.trans hx548_5)
         injection ea_ with ea_ en_ ec_
         subst ea_; subst ec_; clear en_
         go_upto_if 61 with (fail)
         have H := HU13.out; clear HU13
         by_cases c14 : ((rd_T50 l0 x5_1).f1.f1.f2) = (wrap64 ((wrap64 ((wrap64 ((wrap64 (x1_1 + 1)) + 1)) + 1)) + 1))
         ·rw [if_pos c14] at H
          have c14b0:(((rd_T50 l0 x5_1).f1.f1.f2) == (wrap64 ((wrap64 ((wrap64 ((wrap64 (x1_1 + 1)) + 1)) + 1)) + 1)))=true:=beq_iff_eq.mpr c14;have c14b1:(((rd_T50 l0 x5_1).f1.f1.f2) != (wrap64 ((wrap64 ((wrap64 ((wrap64 (x1_1 + 1)) + 1)) + 1)) + 1)))=false:=bne_eq_false_iff_eq.mpr c14;clear c14;refine rw_ c14b0 ?_;obtain ⟨t550,A150,H⟩:=bs_.mp H;(try dsimp only at H);have A15:=D A150;clear A150;have HU16:=D H;clear H;have p549:0≤(x5_1:Int):=od_ Z50;have q549:x5_1 < (l0.length:Int):=od_ Z50;obtain ⟨ad549,A549_5,c549_5,e549,hx549_0,hx549_1,hx549_2,hx549_3,hx549_4,hx549_5,hl549_5,hi549_5⟩:=at_T50 HR0.out x5_1 p549 q549;obtain rfl:ad544=ad549:=(by injection e549);have HR549_5:=D hi549_5;have HC549_5:=D hl549_5;clear hi549_5 hl549_5;replace p549:=eq_true p549;replace q549:=eq_true q549;have ea_:=Option.some.inj (hx544_5.symm.trans hx549_5)
          injection ea_ with ea_ en_ ec_
          subst ea_; subst ec_; clear en_
          go_upto_if 73 with (first|((with_reducible refine gate_callee (f:=50) rfl ?_);refine goesL_ (some 71) rfl rfl Try.func50 (by kernel_rfl) rfl #[Y A544_5 ((rd_T50 l0 x5_1).f1.f2).length c544_5,I L (wrap64 ((wrap64 ((wrap64 ((wrap64 ((wrap64 (x1_1 + 1)) + 1)) + 1)) + 1)) + 1))] rfl Z14 ?_;(with_reducible refine (laws_heldKidS.calls k1 _ _ ((rd_T50 l0 x5_1).f1.f2) (wrap64 ((wrap64 ((wrap64 ((wrap64 ((wrap64 (x1_1 + 1)) + 1)) + 1)) + 1)) + 1)) t550 _ ?side1 ?side2 A15.out).mono ?_);(case side1=>exact pC_ HR549_5.out);(case side2=>exact HC549_5.out);rintro e w' ⟨rfl,⟨nd,rfl⟩⟩;refine ⟨_,rfl,?_⟩))
          have H := HU16.out; clear HU16
          by_cases c17 : t550 < 0
          ·rw [if_pos c17] at H
           have c17b0:decide (t550 < 0)=true:=decide_eq_true c17;clear c17;refine rw_ c17b0 ?_;obtain rfl:=Option.some.inj H
           go_wp2
           go_ret; exact ⟨by first | rfl | (simp; done) | (simp [*]; done), by repeat (first | exact Drawn0.refl _ | apply Drawn0.step)⟩
          ·rw [if_neg c17] at H
           have c17b0:decide (t550 < 0)=false:=decide_eq_false c17;clear c17;refine rw_ c17b0 ?_;have H':=D H;clear H
           go_wp2
           go_roundg k1
           case measure => have := HK1.out; omega
           case rel => exact ⟨(t550), (wrap64 (x5_1 + 1)), Z51, Z51, H', ⟨by have := HK1.out; omega⟩, by repeat (first | exact Drawn0.refl _ | apply Drawn0.step)⟩
         ·rw [if_neg c14] at H
          have c14b0:(((rd_T50 l0 x5_1).f1.f1.f2) == (wrap64 ((wrap64 ((wrap64 ((wrap64 (x1_1 + 1)) + 1)) + 1)) + 1)))=false:=beq_eq_false_iff_ne.mpr c14;have c14b1:(((rd_T50 l0 x5_1).f1.f1.f2) != (wrap64 ((wrap64 ((wrap64 ((wrap64 (x1_1 + 1)) + 1)) + 1)) + 1)))=true:=bne_iff_ne.mpr c14;refine rw_ c14b0 ?_;obtain rfl:=Option.some.inj H
          go_wp2
          go_ret; exact ⟨by first | rfl | (simp; done) | (simp [*]; done), by repeat (first | exact Drawn0.refl _ | apply Drawn0.step)⟩
        ·rw [if_neg c12] at H
         have c12b0:(((rd_T50 l0 x5_1).f1.f1.f1) == (wrap64 ((wrap64 ((wrap64 (x1_1 + 1)) + 1)) + 1)))=false:=beq_eq_false_iff_ne.mpr c12;have c12b1:(((rd_T50 l0 x5_1).f1.f1.f1) != (wrap64 ((wrap64 ((wrap64 (x1_1 + 1)) + 1)) + 1)))=true:=bne_iff_ne.mpr c12;refine rw_ c12b0 ?_;obtain rfl:=Option.some.inj H
         go_wp2
         go_ret; exact ⟨by first | rfl | (simp; done) | (simp [*]; done), by repeat (first | exact Drawn0.refl _ | apply Drawn0.step)⟩
       ·rw [if_neg c10] at H
        have c10b0:(((rd_T50 l0 x5_1).f1.f1.f0) == (wrap64 ((wrap64 (x1_1 + 1)) + 1)))=false:=beq_eq_false_iff_ne.mpr c10;have c10b1:(((rd_T50 l0 x5_1).f1.f1.f0) != (wrap64 ((wrap64 (x1_1 + 1)) + 1)))=true:=bne_iff_ne.mpr c10;refine rw_ c10b0 ?_;obtain rfl:=Option.some.inj H
        go_wp2
        go_ret; exact ⟨by first | rfl | (simp; done) | (simp [*]; done), by repeat (first | exact Drawn0.refl _ | apply Drawn0.step)⟩
      ·rw [if_neg c8] at H
       have c8b0:(((rd_T50 l0 x5_1).f1.f0) == (wrap64 (x1_1 + 1)))=false:=beq_eq_false_iff_ne.mpr c8;have c8b1:(((rd_T50 l0 x5_1).f1.f0) != (wrap64 (x1_1 + 1)))=true:=bne_iff_ne.mpr c8;refine rw_ c8b0 ?_;obtain rfl:=Option.some.inj H
       go_wp2
       go_ret; exact ⟨by first | rfl | (simp; done) | (simp [*]; done), by repeat (first | exact Drawn0.refl _ | apply Drawn0.step)⟩
     ·rw [if_neg c6] at H
      have c6b0:(((rd_T50 l0 x5_1).f0) == x1_1)=false:=beq_eq_false_iff_ne.mpr c6;have c6b1:(((rd_T50 l0 x5_1).f0) != x1_1)=true:=bne_iff_ne.mpr c6;refine rw_ c6b0 ?_;obtain rfl:=Option.some.inj H
      go_wp2
      go_ret; exact ⟨by first | rfl | (simp; done) | (simp [*]; done), by repeat (first | exact Drawn0.refl _ | apply Drawn0.step)⟩
    ·rw [if_neg c4] at H
     exact absurd H (by simp)
   ·rw [if_neg c3] at H
    have c3b0 : decide (x5_1 < (l0.length : Int)) = false := decide_eq_false c3; clear c3; obtain rfl := Option.some.inj H
    go_wp2
    go_ret; exact ⟨by first | rfl | (simp; done) | (simp [*]; done), by repeat (first | exact Drawn0.refl _ | apply Drawn0.step)⟩

/-! ### laws_heldTree: function 10 -/
def laws_heldTree.f (k : Nat) (a0_0 a0_1 a0_2 a0_3 : Int) (l0_4 : List (S67)) (l0_5 : List (S50)) (a1 : Int) : Option (Int) := (laws_heldFair.f k a0_0 a0_1 a0_2 a0_3 l0_4 a1).bind fun t552 => (if t552 < 0 then (some (-1)) else ((laws_heldBranchS.f k l0_5 t552).bind fun t553 => (if t553 < 0 then (some (-1)) else (some t553))))
set_option maxHeartbeats 8000000 in
set_option maxRecDepth 100000 in
theorem laws_heldTree.calls (k : Nat) (a0_0 a0_1 a0_2 a0_3 : Int) (A0_4 : Option Addr) (c0_4 : Nat) (l0_4 : List (S67)) (A0_5 : Option Addr) (c0_5 : Nat) (l0_5 : List (S50)) (a1 r : Int) (w : World) (hr0_4 : Kd.C k67 w A0_4 l0_4.length l0_4) (hc0_4 : l0_4.length ≤ c0_4) (hr0_5 : Kd.C k50 w A0_5 l0_5.length l0_5) (hc0_5 : l0_5.length ≤ c0_5) (h : laws_heldTree.f k a0_0 a0_1 a0_2 a0_3 l0_4 l0_5 a1 = some r) :
  Calls Try.prog 10 #[.agg #[I L a0_0,I L a0_1,I L a0_2,I L a0_3,Y A0_4 l0_4.length c0_4,Y A0_5 l0_5.length c0_5],I L a1] w fun e w'=>e=.returned (I L r)∧Below w.heap.size w w':=by
 have hu37 := Try.underlying37
 have hu34 := Try.underlying34
 have HR0_4 := D hr0_4
 have HC0_4 := D hc0_4
 clear hr0_4 hc0_4
 have HR0_5 := D hr0_5
 have HC0_5 := D hc0_5
 clear hr0_5 hc0_5
 have HB := D (Below.refl w.heap.size w)
 have H:((laws_heldFair.f k a0_0 a0_1 a0_2 a0_3 l0_4 a1).bind fun t552=>(if t552 < 0 then (some (-1)) else ((laws_heldBranchS.f k l0_5 t552).bind fun t553=>(if t553 < 0 then (some (-1)) else (some t553)))))=some r:=h
 clear h
 obtain ⟨t552, A30, H⟩ := bs_.mp H
 (try dsimp only at H)
 have A3 := D A30
 clear A30
 have HU4 := D H
 clear H
 go_enter Try.func10, Try.ntmps10
 go_upto_if 10 with (first|((with_reducible refine gate_dst (N:=2) rfl ?_);refine bx_ (N:=2) (cs:=#[I L a0_0,I L a0_1,I L a0_2,I L a0_3,Y A0_4 l0_4.length c0_4,Y A0_5 l0_5.length c0_5]) (t:=37) ?_;intro gb551 hg w5 hbox hb;have n_:=an_ (below_step (pB_ HB.out) hb)<|an_ (hbox)<|an_ (bg_ hg (pB_ HB.out):w.heap.size≤gb551)<|D (bg_ hg (pB_ HB.out):w.heap.size≤gb551);clear HB;obtain ⟨HB,BK551,GW551,GE551⟩:=n_;clear hb hbox hg;have hcz6_0:=cells6 BK551.out)|((with_reducible refine gate_callee (f:=26) rfl ?_);refine goesL_ (some 8) rfl rfl Try.func26 (by kernel_rfl) rfl #[.agg #[I L a0_0,I L a0_1,I L a0_2,I L a0_3,Y A0_4 l0_4.length c0_4],I L a1] rfl Z14 ?_;(with_reducible refine (laws_heldFair.calls k a0_0 a0_1 a0_2 a0_3 _ _ l0_4 a1 t552 _ ?side1 ?side2 A3.out).mono ?_);(case side1=>exact pC_ (Kd.C_below HR0_4.out HB.out));(case side2=>exact HC0_4.out);rintro e w7 ⟨rfl,hb⟩;refine ⟨_,rfl,?_⟩;have n_:=an_ (blk_below (pk_ BK551.out) hb)<|D (below_step (pB_ HB.out) hb);clear BK551 HB;obtain ⟨BK551,HB⟩:=n_;(try clear hb)))
 have H := HU4.out
 clear HU4
 by_cases c8 : t552 < 0
 ·rw [if_pos c8] at H
  have c8b0:decide (t552 < 0)=true:=decide_eq_true c8;clear c8;refine rw_ c8b0 ?_;obtain rfl:=Option.some.inj H
  go_wp2
  go_ret; exact ⟨er_, pB_ HB.out⟩
 ·rw [if_neg c8] at H
  have c8b0:decide (t552 < 0)=false:=decide_eq_false c8;clear c8;refine rw_ c8b0 ?_;obtain ⟨t553,A90,H⟩:=bs_.mp H;(try dsimp only at H);have A9:=D A90;clear A90;have HU10:=D H;clear H;have hcz11_0:=cells6 BK551.out
  go_upto_if 16 with (first|((with_reducible refine gate_callee (f:=27) rfl ?_);refine goesL_ (some 14) rfl rfl Try.func27 (by kernel_rfl) rfl #[Y A0_5 l0_5.length c0_5,I L t552] rfl Z14 ?_;(with_reducible refine (laws_heldBranchS.calls k _ _ l0_5 t552 t553 _ ?side1 ?side2 A9.out).mono ?_);(case side1=>exact pC_ (Kd.C_below HR0_5.out HB.out));(case side2=>exact HC0_5.out);rintro e w' ⟨rfl,⟨nd,rfl⟩⟩;refine ⟨_,rfl,?_⟩))
  have H := HU10.out; clear HU10
  by_cases c12 : t553 < 0
  ·rw [if_pos c12] at H
   have c12b0:decide (t553 < 0)=true:=decide_eq_true c12;clear c12;refine rw_ c12b0 ?_;obtain rfl:=Option.some.inj H
   go_wp2
   go_ret; exact ⟨er_, pB_ HB.out⟩
  ·rw [if_neg c12] at H
   have c12b0:decide (t553 < 0)=false:=decide_eq_false c12;clear c12;refine rw_ c12b0 ?_;obtain rfl:=Option.some.inj H
   go_wp2
   go_ret; exact ⟨er_, pB_ HB.out⟩

end Go.Proofs.Ytmloggnobgikdab.PFnExactTreeShed
