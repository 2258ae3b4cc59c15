-- by a program of this session's, over the kit's words
import Derived.Test.YtmloggnobgikdaaPZFnExactTreeCut
import Derived.Test.YtmloggnobgikdaaPFnExactTreeCutx0
import Derived.Test.YtmloggnobgikdaaPFnExactTreeCutx14
namespace Go.Proofs.Ytmloggnobgikdaa.PFnExactTreeCut
open Go.RowKit Go.Proofs.YtmloggnobgikdaaW.PrintWords Go.Proofs.YtmloggnobgikdaaW.PrintLast Go.Proofs.YtmloggnobgikdaaW.PrintMore Go.Proofs.YtmloggnobgikdaaV Go.Proofs.Ytmloggnobgikdaa.ZFnExactTreeCut
open Go.Value renaming int → I, slice → Y
open Go.IntKind renaming i64 → L
open Aside0 renaming mk → D
open Option renaming bind_eq_some_iff → bs_
attribute [local go_sem] max2_int min2_int max_two min_two max_three min_three max_four min_four   -- for this text's walks alone
set_option linter.unusedVariables false
set_option linter.unusedSimpArgs false

/-! ### laws_markBranchS: function 27 -/
def laws_markBranchS.l0 : Nat → List (S50) → Int → Int → Option (Int × (List (S50)))
 | 0, _, _, _ => none
 | k + 1,x0,x1,x5=>if x5 < (x0.length:Int) then (if 0≤x5 then ((some (x0.set (x5:Int).toNat (⟨x1,(⟨(rd_T50 x0 x5).f1.f0,(⟨(rd_T50 x0 x5).f1.f1.f0,(rd_T50 x0 x5).f1.f1.f1,(rd_T50 x0 x5).f1.f1.f2⟩:S31),(rd_T50 x0 x5).f1.f2⟩:S34)⟩:S50):List (S50))).bind fun y436=>((some (y436.set (x5:Int).toNat (⟨(rd_T50 y436 x5).f0,(⟨wrap64 (x1 + 1),(⟨(rd_T50 y436 x5).f1.f1.f0,(rd_T50 y436 x5).f1.f1.f1,(rd_T50 y436 x5).f1.f1.f2⟩:S31),(rd_T50 y436 x5).f1.f2⟩:S34)⟩:S50):List (S50))).bind fun y437=>((some (y437.set (x5:Int).toNat (⟨(rd_T50 y437 x5).f0,(⟨(rd_T50 y437 x5).f1.f0,(⟨wrap64 ((wrap64 (x1 + 1)) + 1),(rd_T50 y437 x5).f1.f1.f1,(rd_T50 y437 x5).f1.f1.f2⟩:S31),(rd_T50 y437 x5).f1.f2⟩:S34)⟩:S50):List (S50))).bind fun y438=>((some (y438.set (x5:Int).toNat (⟨(rd_T50 y438 x5).f0,(⟨(rd_T50 y438 x5).f1.f0,(⟨(rd_T50 y438 x5).f1.f1.f0,wrap64 ((wrap64 ((wrap64 (x1 + 1)) + 1)) + 1),(rd_T50 y438 x5).f1.f1.f2⟩:S31),(rd_T50 y438 x5).f1.f2⟩:S34)⟩:S50):List (S50))).bind fun y439=>((some (y439.set (x5:Int).toNat (⟨(rd_T50 y439 x5).f0,(⟨(rd_T50 y439 x5).f1.f0,(⟨(rd_T50 y439 x5).f1.f1.f0,(rd_T50 y439 x5).f1.f1.f1,wrap64 ((wrap64 ((wrap64 ((wrap64 (x1 + 1)) + 1)) + 1)) + 1)⟩:S31),(rd_T50 y439 x5).f1.f2⟩:S34)⟩:S50):List (S50))).bind fun y440=>((laws_markKidS.f k ((rd_T50 y440 x5).f1.f2) (wrap64 ((wrap64 ((wrap64 ((wrap64 ((wrap64 (x1 + 1)) + 1)) + 1)) + 1)) + 1))).bind fun bt442=>(laws_markBranchS.l0 k (y440.set (x5:Int).toNat (⟨(rd_T50 y440 x5).f0,(⟨(rd_T50 y440 x5).f1.f0,(⟨(rd_T50 y440 x5).f1.f1.f0,(rd_T50 y440 x5).f1.f1.f1,(rd_T50 y440 x5).f1.f1.f2⟩:S31),bt442.2⟩:S34)⟩:S50)) bt442.1 (wrap64 (x5 + 1))))))))) else (none)) else (some (x1,x0))
def laws_markBranchS.f (k : Nat) (l0 : List (S50)) (a1 : Int) : Option (Int × (List (S50))) := laws_markBranchS.l0 k l0 a1 0
set_option maxHeartbeats 8000000 in
set_option maxRecDepth 100000 in
theorem laws_markBranchS.calls (k : Nat) (P0_ : Nat → Prop) (u9000_ : Value) (l0 : List (S50)) (a1 r1 : Int) (r2 : List (S50)) (w0 w : World) (hB : Below w0.heap.size w0 w) (ho0 : Kd.S k50 50 w w0.heap.size P0_ u9000_ l0) (h : laws_markBranchS.f k l0 a1 = some (r1, r2)) :
  Calls Try.prog 27 #[u9000_,I L a1] w fun e w'=>e=.returned (I L r1)∧Kd.S k50 50 w' w0.heap.size (fun k_=>(P0_ k_ ∨ w.heap.size≤k_)) u9000_ r2∧Below w0.heap.size w0 w'∧Kept w w' (fun k_=>P0_ k_):=by
 have Jb := D (show Kd.S k50 50 w w0.heap.size (fun k_ => (P0_ k_ ∨ w.heap.size ≤ k_)) u9000_ l0 from Kd.S_mono ho0 (fun k_ hk => (.inl hk)))
 have HK := D (Kept.refl w (fun k_ => P0_ k_))
 have HW0 := D hB.size
 have HB := D hB
 clear hB
 have H : (laws_markBranchS.l0 k l0 a1 0) = some (r1, r2) := h
 clear h
 have H' := D H
 clear H
 go_enter Try.func27, Try.ntmps27
 go_wp2
 go_loopg [1,5] k (fun kq v1 v5 w'=>∃ (x0_1:List (S50)) (x1_1:Int) (x5_1:Int),v1=I L x1_1∧v5=I L x5_1∧Aside0 (laws_markBranchS.l0 kq x0_1 x1_1 x5_1=some (r1,r2))∧Aside0 (kq≤k)∧Aside0 (Kd.S k50 50 w' w0.heap.size (fun k_=>(P0_ k_ ∨ w.heap.size≤k_)) u9000_ x0_1)∧Aside0 (Kept w w' (fun k_=>P0_ k_))∧Aside0 (Below w0.heap.size w0 w'))
 case atStart=>exact ⟨(l0),(a1),(0),Z44,Z44,H',⟨Nat.le_refl _⟩,⟨pS_ Jb.out⟩,⟨by repeat (first|(with_reducible first|exact HK.out|apply Kept.alloc|apply Kept.drewN|apply Kept.drew)|exact HK.out)⟩,⟨pB_ HB.out⟩⟩
 case round =>
  clear H'
  (try clear c2);(try clear p2)
  obtain ⟨x0_1, x1_1, x5_1, rfl, rfl, HA, HK1, Ja, HK, HB⟩ := hrel
  cases gk with
  | zero => exact absurd HA.out (by simp [laws_markBranchS.l0])
  | succ k1 =>
   have H := HA.out; clear HA; simp only [laws_markBranchS.l0] at H
   by_cases c3 : x5_1 < (x0_1.length : Int)
   ·rw [if_pos c3] at H
    have c3b0 : decide (x5_1 < (x0_1.length : Int)) = true := decide_eq_true c3; clear c3
    by_cases c4 : 0 ≤ x5_1
    ·rw [if_pos c4] at H
     have c4b0:decide (0≤x5_1)=true:=decide_eq_true c4;clear c4;obtain ⟨y436,hy436⟩:∃ y_:List (S50),y_=(x0_1.set (x5_1:Int).toNat (⟨x1_1,(⟨(rd_T50 x0_1 x5_1).f1.f0,(⟨(rd_T50 x0_1 x5_1).f1.f1.f0,(rd_T50 x0_1 x5_1).f1.f1.f1,(rd_T50 x0_1 x5_1).f1.f1.f2⟩:S31),(rd_T50 x0_1 x5_1).f1.f2⟩:S34)⟩:S50)):=⟨_,rfl⟩
     replace H:((some (y436.set (x5_1:Int).toNat (⟨(rd_T50 y436 x5_1).f0,(⟨wrap64 (x1_1 + 1),(⟨(rd_T50 y436 x5_1).f1.f1.f0,(rd_T50 y436 x5_1).f1.f1.f1,(rd_T50 y436 x5_1).f1.f1.f2⟩:S31),(rd_T50 y436 x5_1).f1.f2⟩:S34)⟩:S50):List (S50))).bind fun y437=>((some (y437.set (x5_1:Int).toNat (⟨(rd_T50 y437 x5_1).f0,(⟨(rd_T50 y437 x5_1).f1.f0,(⟨wrap64 ((wrap64 (x1_1 + 1)) + 1),(rd_T50 y437 x5_1).f1.f1.f1,(rd_T50 y437 x5_1).f1.f1.f2⟩:S31),(rd_T50 y437 x5_1).f1.f2⟩:S34)⟩:S50):List (S50))).bind fun y438=>((some (y438.set (x5_1:Int).toNat (⟨(rd_T50 y438 x5_1).f0,(⟨(rd_T50 y438 x5_1).f1.f0,(⟨(rd_T50 y438 x5_1).f1.f1.f0,wrap64 ((wrap64 ((wrap64 (x1_1 + 1)) + 1)) + 1),(rd_T50 y438 x5_1).f1.f1.f2⟩:S31),(rd_T50 y438 x5_1).f1.f2⟩:S34)⟩:S50):List (S50))).bind fun y439=>((some (y439.set (x5_1:Int).toNat (⟨(rd_T50 y439 x5_1).f0,(⟨(rd_T50 y439 x5_1).f1.f0,(⟨(rd_T50 y439 x5_1).f1.f1.f0,(rd_T50 y439 x5_1).f1.f1.f1,wrap64 ((wrap64 ((wrap64 ((wrap64 (x1_1 + 1)) + 1)) + 1)) + 1)⟩:S31),(rd_T50 y439 x5_1).f1.f2⟩:S34)⟩:S50):List (S50))).bind fun y440=>((laws_markKidS.f k1 ((rd_T50 y440 x5_1).f1.f2) (wrap64 ((wrap64 ((wrap64 ((wrap64 ((wrap64 (x1_1 + 1)) + 1)) + 1)) + 1)) + 1))).bind fun bt442=>(laws_markBranchS.l0 k1 (y440.set (x5_1:Int).toNat (⟨(rd_T50 y440 x5_1).f0,(⟨(rd_T50 y440 x5_1).f1.f0,(⟨(rd_T50 y440 x5_1).f1.f1.f0,(rd_T50 y440 x5_1).f1.f1.f1,(rd_T50 y440 x5_1).f1.f1.f2⟩:S31),bt442.2⟩:S34)⟩:S50)) bt442.1 (wrap64 (x5_1 + 1))))))))=some (r1,r2):=by first|(rw [hy436];with_reducible exact H)|(have H2_:=(Option.bind_some _ _).symm.trans H;rw [hy436];with_reducible exact H2_)|(have H2_:=(Option.bind_some _ _).symm.trans H;with_reducible exact H2_)|with_reducible exact H|(rw [hy436];exact H)|exact H
     have Ny436:=D hy436;clear hy436;obtain ⟨y437,hy437⟩:∃ y_:List (S50),y_=(y436.set (x5_1:Int).toNat (⟨(rd_T50 y436 x5_1).f0,(⟨wrap64 (x1_1 + 1),(⟨(rd_T50 y436 x5_1).f1.f1.f0,(rd_T50 y436 x5_1).f1.f1.f1,(rd_T50 y436 x5_1).f1.f1.f2⟩:S31),(rd_T50 y436 x5_1).f1.f2⟩:S34)⟩:S50)):=⟨_,rfl⟩
     replace H:((some (y437.set (x5_1:Int).toNat (⟨(rd_T50 y437 x5_1).f0,(⟨(rd_T50 y437 x5_1).f1.f0,(⟨wrap64 ((wrap64 (x1_1 + 1)) + 1),(rd_T50 y437 x5_1).f1.f1.f1,(rd_T50 y437 x5_1).f1.f1.f2⟩:S31),(rd_T50 y437 x5_1).f1.f2⟩:S34)⟩:S50):List (S50))).bind fun y438=>((some (y438.set (x5_1:Int).toNat (⟨(rd_T50 y438 x5_1).f0,(⟨(rd_T50 y438 x5_1).f1.f0,(⟨(rd_T50 y438 x5_1).f1.f1.f0,wrap64 ((wrap64 ((wrap64 (x1_1 + 1)) + 1)) + 1),(rd_T50 y438 x5_1).f1.f1.f2⟩:S31),(rd_T50 y438 x5_1).f1.f2⟩:S34)⟩:S50):List (S50))).bind fun y439=>((some (y439.set (x5_1:Int).toNat (⟨(rd_T50 y439 x5_1).f0,(⟨(rd_T50 y439 x5_1).f1.f0,(⟨(rd_T50 y439 x5_1).f1.f1.f0,(rd_T50 y439 x5_1).f1.f1.f1,wrap64 ((wrap64 ((wrap64 ((wrap64 (x1_1 + 1)) + 1)) + 1)) + 1)⟩:S31),(rd_T50 y439 x5_1).f1.f2⟩:S34)⟩:S50):List (S50))).bind fun y440=>((laws_markKidS.f k1 ((rd_T50 y440 x5_1).f1.f2) (wrap64 ((wrap64 ((wrap64 ((wrap64 ((wrap64 (x1_1 + 1)) + 1)) + 1)) + 1)) + 1))).bind fun bt442=>(laws_markBranchS.l0 k1 (y440.set (x5_1:Int).toNat (⟨(rd_T50 y440 x5_1).f0,(⟨(rd_T50 y440 x5_1).f1.f0,(⟨(rd_T50 y440 x5_1).f1.f1.f0,(rd_T50 y440 x5_1).f1.f1.f1,(rd_T50 y440 x5_1).f1.f1.f2⟩:S31),bt442.2⟩:S34)⟩:S50)) bt442.1 (wrap64 (x5_1 + 1)))))))=some (r1,r2):=by first|(rw [hy437];with_reducible exact H)|(have H2_:=(Option.bind_some _ _).symm.trans H;rw [hy437];with_reducible exact H2_)|(have H2_:=(Option.bind_some _ _).symm.trans H;with_reducible exact H2_)|with_reducible exact H|(rw [hy437];exact H)|exact H
     have Ny437:=D hy437;clear hy437;obtain ⟨y438,hy438⟩:∃ y_:List (S50),y_=(y437.set (x5_1:Int).toNat (⟨(rd_T50 y437 x5_1).f0,(⟨(rd_T50 y437 x5_1).f1.f0,(⟨wrap64 ((wrap64 (x1_1 + 1)) + 1),(rd_T50 y437 x5_1).f1.f1.f1,(rd_T50 y437 x5_1).f1.f1.f2⟩:S31),(rd_T50 y437 x5_1).f1.f2⟩:S34)⟩:S50)):=⟨_,rfl⟩
     replace H:((some (y438.set (x5_1:Int).toNat (⟨(rd_T50 y438 x5_1).f0,(⟨(rd_T50 y438 x5_1).f1.f0,(⟨(rd_T50 y438 x5_1).f1.f1.f0,wrap64 ((wrap64 ((wrap64 (x1_1 + 1)) + 1)) + 1),(rd_T50 y438 x5_1).f1.f1.f2⟩:S31),(rd_T50 y438 x5_1).f1.f2⟩:S34)⟩:S50):List (S50))).bind fun y439=>((some (y439.set (x5_1:Int).toNat (⟨(rd_T50 y439 x5_1).f0,(⟨(rd_T50 y439 x5_1).f1.f0,(⟨(rd_T50 y439 x5_1).f1.f1.f0,(rd_T50 y439 x5_1).f1.f1.f1,wrap64 ((wrap64 ((wrap64 ((wrap64 (x1_1 + 1)) + 1)) + 1)) + 1)⟩:S31),(rd_T50 y439 x5_1).f1.f2⟩:S34)⟩:S50):List (S50))).bind fun y440=>((laws_markKidS.f k1 ((rd_T50 y440 x5_1).f1.f2) (wrap64 ((wrap64 ((wrap64 ((wrap64 ((wrap64 (x1_1 + 1)) + 1)) + 1)) + 1)) + 1))).bind fun bt442=>(laws_markBranchS.l0 k1 (y440.set (x5_1:Int).toNat (⟨(rd_T50 y440 x5_1).f0,(⟨(rd_T50 y440 x5_1).f1.f0,(⟨(rd_T50 y440 x5_1).f1.f1.f0,(rd_T50 y440 x5_1).f1.f1.f1,(rd_T50 y440 x5_1).f1.f1.f2⟩:S31),bt442.2⟩:S34)⟩:S50)) bt442.1 (wrap64 (x5_1 + 1))))))=some (r1,r2):=by first|(rw [hy438];with_reducible exact H)|(have H2_:=(Option.bind_some _ _).symm.trans H;rw [hy438];with_reducible exact H2_)|(have H2_:=(Option.bind_some _ _).symm.trans H;with_reducible exact H2_)|with_reducible exact H|(rw [hy438];exact H)|exact H
     have Ny438:=D hy438;clear hy438;obtain ⟨y439,hy439⟩:∃ y_:List (S50),y_=(y438.set (x5_1:Int).toNat (⟨(rd_T50 y438 x5_1).f0,(⟨(rd_T50 y438 x5_1).f1.f0,(⟨(rd_T50 y438 x5_1).f1.f1.f0,wrap64 ((wrap64 ((wrap64 (x1_1 + 1)) + 1)) + 1),(rd_T50 y438 x5_1).f1.f1.f2⟩:S31),(rd_T50 y438 x5_1).f1.f2⟩:S34)⟩:S50)):=⟨_,rfl⟩
     replace H:((some (y439.set (x5_1:Int).toNat (⟨(rd_T50 y439 x5_1).f0,(⟨(rd_T50 y439 x5_1).f1.f0,(⟨(rd_T50 y439 x5_1).f1.f1.f0,(rd_T50 y439 x5_1).f1.f1.f1,wrap64 ((wrap64 ((wrap64 ((wrap64 (x1_1 + 1)) + 1)) + 1)) + 1)⟩:S31),(rd_T50 y439 x5_1).f1.f2⟩:S34)⟩:S50):List (S50))).bind fun y440=>((laws_markKidS.f k1 ((rd_T50 y440 x5_1).f1.f2) (wrap64 ((wrap64 ((wrap64 ((wrap64 ((wrap64 (x1_1 + 1)) + 1)) + 1)) + 1)) + 1))).bind fun bt442=>(laws_markBranchS.l0 k1 (y440.set (x5_1:Int).toNat (⟨(rd_T50 y440 x5_1).f0,(⟨(rd_T50 y440 x5_1).f1.f0,(⟨(rd_T50 y440 x5_1).f1.f1.f0,(rd_T50 y440 x5_1).f1.f1.f1,(rd_T50 y440 x5_1).f1.f1.f2⟩:S31),bt442.2⟩:S34)⟩:S50)) bt442.1 (wrap64 (x5_1 + 1)))))=some (r1,r2):=by first|(rw [hy439];with_reducible exact H)|(have H2_:=(Option.bind_some _ _).symm.trans H;rw [hy439];with_reducible exact H2_)|(have H2_:=(Option.bind_some _ _).symm.trans H;with_reducible exact H2_)|with_reducible exact H|(rw [hy439];exact H)|exact H
     have Ny439:=D hy439;clear hy439;obtain ⟨y440,hy440⟩:∃ y_:List (S50),y_=(y439.set (x5_1:Int).toNat (⟨(rd_T50 y439 x5_1).f0,(⟨(rd_T50 y439 x5_1).f1.f0,(⟨(rd_T50 y439 x5_1).f1.f1.f0,(rd_T50 y439 x5_1).f1.f1.f1,wrap64 ((wrap64 ((wrap64 ((wrap64 (x1_1 + 1)) + 1)) + 1)) + 1)⟩:S31),(rd_T50 y439 x5_1).f1.f2⟩:S34)⟩:S50)):=⟨_,rfl⟩
     replace H:((laws_markKidS.f k1 ((rd_T50 y440 x5_1).f1.f2) (wrap64 ((wrap64 ((wrap64 ((wrap64 ((wrap64 (x1_1 + 1)) + 1)) + 1)) + 1)) + 1))).bind fun bt442=>(laws_markBranchS.l0 k1 (y440.set (x5_1:Int).toNat (⟨(rd_T50 y440 x5_1).f0,(⟨(rd_T50 y440 x5_1).f1.f0,(⟨(rd_T50 y440 x5_1).f1.f1.f0,(rd_T50 y440 x5_1).f1.f1.f1,(rd_T50 y440 x5_1).f1.f1.f2⟩:S31),bt442.2⟩:S34)⟩:S50)) bt442.1 (wrap64 (x5_1 + 1))))=some (r1,r2):=by first|(rw [hy440];with_reducible exact H)|(have H2_:=(Option.bind_some _ _).symm.trans H;rw [hy440];with_reducible exact H2_)|(have H2_:=(Option.bind_some _ _).symm.trans H;with_reducible exact H2_)|with_reducible exact H|(rw [hy440];exact H)|exact H
     have Ny440:=D hy440;clear hy440;obtain ⟨⟨Ua,Ma⟩,A100,H⟩:=bs_.mp H;(try dsimp only at H);have A10:=D A100;clear A100;have H':=D H;clear H;obtain ⟨Kb,Ka,eo11⟩:=Kd.S_slice Ja.out;subst eo11;have p5:0≤(x5_1:Int):=od_ Z43;have q5:(x5_1:Int) < ((x0_1.length:Int):Int):=od_ Z43;obtain ⟨go5,Mb,eo5,Xa,gl5,cl5,HG5⟩:=Kd.S_form Ja.out (by omega);(first|cases eo5|(injection eo5 with ea_ en_ ec_;(first|subst ea_|(injection ea_ with ea_;subst ea_));subst ec_;clear en_));have GB5:=D Xa;have GG5:=D HG5;clear Xa gl5 HG5;have HMgo5:=D (show (P0_ go5 ∨ w.heap.size≤go5) from ((Kd.S_R Ja.out).1 _ rfl));obtain ⟨_,ce5,hcl5,hM5,hcc5,hfr5,_,_⟩:=Kd.S_elem Ja.out z50 (x5_1:Int) p5 q5;obtain ⟨ve5_5,rfl,ge5_5⟩:=k50_openM hM5;have hx5_0:wr.cell? ⟨go5,(x5_1:Int).toNat * 6,none⟩=some (I L ((rd_T50 x0_1 x5_1).f0)):=hcc5 0 _ rfl;have hx5_1:wr.cell? ⟨go5,(x5_1:Int).toNat * 6 + 1,none⟩=some (I L ((rd_T50 x0_1 x5_1).f1.f0)):=hcc5 1 _ rfl;have hx5_2:wr.cell? ⟨go5,(x5_1:Int).toNat * 6 + 2,none⟩=some (I L ((rd_T50 x0_1 x5_1).f1.f1.f0)):=hcc5 2 _ rfl;have hx5_3:wr.cell? ⟨go5,(x5_1:Int).toNat * 6 + 3,none⟩=some (I L ((rd_T50 x0_1 x5_1).f1.f1.f1)):=hcc5 3 _ rfl;have hx5_4:wr.cell? ⟨go5,(x5_1:Int).toNat * 6 + 4,none⟩=some (I L ((rd_T50 x0_1 x5_1).f1.f1.f2)):=hcc5 4 _ rfl;have hx5_5:wr.cell? ⟨go5,(x5_1:Int).toNat * 6 + 5,none⟩=some (ve5_5):=hcc5 5 _ rfl;have hf5_0:wr.frozen? ⟨go5,(x5_1:Int).toNat * 6,none⟩=false:=hfr5 0;have hf5_1:wr.frozen? ⟨go5,(x5_1:Int).toNat * 6 + 1,none⟩=false:=hfr5 1;have hf5_2:wr.frozen? ⟨go5,(x5_1:Int).toNat * 6 + 2,none⟩=false:=hfr5 2;have hf5_3:wr.frozen? ⟨go5,(x5_1:Int).toNat * 6 + 3,none⟩=false:=hfr5 3;have hf5_4:wr.frozen? ⟨go5,(x5_1:Int).toNat * 6 + 4,none⟩=false:=hfr5 4;have hf5_5:wr.frozen? ⟨go5,(x5_1:Int).toNat * 6 + 5,none⟩=false:=hfr5 5;clear hcl5 hcc5 hfr5 hM5;replace p5:=eq_true p5;replace q5:=eq_true q5;have HX12:=D (show Kd.S k50 50 wr w0.heap.size (fun k_=>((fun k_=>(P0_ k_ ∨ w.heap.size≤k_))) k_∧¬ ((fun _=>False)) k_) (Y (some ⟨go5,0,none⟩) x0_1.length Ka) x0_1 from (pS_ (Kd.S_mono Ja.out (fun k_ hk=>⟨hk,fun e_=>e_⟩))));obtain ⟨oki12,ce12,hcl12,hM12,hcc12,hfr12,hoki12,hH12⟩:=Kd.S_elem HX12.out z50 (x5_1:Int) (od_ Z43) (by have h_:(x5_1:Int) < ((x0_1.length:Int):Int):=od_ Z43;first|exact h_|(have e_:=(Kd.S_reads' Ja.out).1;omega)|simpa using h_);obtain ⟨ve12_5,rfl,ge12_5⟩:=k50_openM hM12;have HP12:=Kd.S_seg hH12 (od_ Z43) (by have h_:(x5_1:Int) < ((x0_1.length:Int):Int):=od_ Z43;first|exact h_|(have e_:=(Kd.S_reads' Ja.out).1;omega)|simpa using h_) (seg:=[I L x1_1]) (j:=0) (show 1≤6 from by decide) (x':=(⟨x1_1,(⟨(rd_T50 x0_1 x5_1).f1.f0,(⟨(rd_T50 x0_1 x5_1).f1.f1.f0,(rd_T50 x0_1 x5_1).f1.f1.f1,(rd_T50 x0_1 x5_1).f1.f1.f2⟩:S31),(rd_T50 x0_1 x5_1).f1.f2⟩:S34)⟩:S50)) (k50_mkM _ _ _ (⟨x1_1,(⟨(rd_T50 x0_1 x5_1).f1.f0,(⟨(rd_T50 x0_1 x5_1).f1.f1.f0,(rd_T50 x0_1 x5_1).f1.f1.f1,(rd_T50 x0_1 x5_1).f1.f1.f2⟩:S31),(rd_T50 x0_1 x5_1).f1.f2⟩:S34)⟩:S50) (Kd.R_mono ge12_5 (fun _ h_=>Or.inl h_))) (fun _ hk=>hk) (fun k_ hk_=>hk_.elim);have hx12_0:=hcc12 0 _ rfl;(try simp only [show (k50).sz=6 from rfl,Nat.mul_one,Nat.add_zero] at hx12_0);have hf12_0:=hfr12 0;(try simp only [show (k50).sz=6 from rfl,Nat.mul_one,Nat.add_zero] at hf12_0);clear hcl12 hcc12 hfr12 hM12 hoki12 hH12
     go_wp2_with (first|((with_reducible refine gate_store (t:=3) (p:=16) rfl ?_);refine store_event (t:=3) (p:=16) (v:=?vo_w13) (w1:=(wr.setCell ⟨go5,(x5_1:Int).toNat * 6,none⟩ (I L x1_1))) ?hg ?ho ?hn ?hr ?_;(case ho=>rfl);(case hg=>rfl);(case hn=>rfl);(case hr=>first|(go_simp;done)|(go_simp;rfl));intro w13 hw;have hg:wr.grownBy w13 (some go5):=Z45;have hp_:Kd.S k50 50 w13 w0.heap.size (fun k_=>(P0_ k_ ∨ w.heap.size≤k_)) (Y (some ⟨go5,0,none⟩) x0_1.length Ka) y436:=(by rw [hw,Ny436.out];exact HP12.1);clear HP12;have n_:=an_ (hp_)<|an_ ((by rw [hw];exact below_set (HB.out) GB5.out:Below w0.heap.size w0 w13))<|D (Kept.of_grown (S:=(fun k_=>P0_ k_)) hg Z13 (fun k_ e_=>((Kd.S_R Ja.out).1 k_ e_)));clear Ja HB HK;obtain ⟨Ja,HB,HK⟩:=n_;clear hg hw hp_;have p6:0≤(x5_1:Int):=od_ Z43;have q6:(x5_1:Int) < ((x0_1.length:Int):Int):=od_ Z43;obtain ⟨_,ce6,hcl6,hM6,hcc6,hfr6,_,_⟩:=Kd.S_elem Ja.out z50 (x5_1:Int) p6 q6;obtain ⟨ve6_5,rfl,ge6_5⟩:=k50_openM hM6;have hx6_0:w13.cell? ⟨go5,(x5_1:Int).toNat * 6,none⟩=some (I L ((rd_T50 y436 x5_1).f0)):=hcc6 0 _ rfl;have hx6_1:w13.cell? ⟨go5,(x5_1:Int).toNat * 6 + 1,none⟩=some (I L ((rd_T50 y436 x5_1).f1.f0)):=hcc6 1 _ rfl;have hx6_2:w13.cell? ⟨go5,(x5_1:Int).toNat * 6 + 2,none⟩=some (I L ((rd_T50 y436 x5_1).f1.f1.f0)):=hcc6 2 _ rfl;have hx6_3:w13.cell? ⟨go5,(x5_1:Int).toNat * 6 + 3,none⟩=some (I L ((rd_T50 y436 x5_1).f1.f1.f1)):=hcc6 3 _ rfl;have hx6_4:w13.cell? ⟨go5,(x5_1:Int).toNat * 6 + 4,none⟩=some (I L ((rd_T50 y436 x5_1).f1.f1.f2)):=hcc6 4 _ rfl;have hx6_5:w13.cell? ⟨go5,(x5_1:Int).toNat * 6 + 5,none⟩=some (ve6_5):=hcc6 5 _ rfl;have hf6_0:w13.frozen? ⟨go5,(x5_1:Int).toNat * 6,none⟩=false:=hfr6 0;have hf6_1:w13.frozen? ⟨go5,(x5_1:Int).toNat * 6 + 1,none⟩=false:=hfr6 1;have hf6_2:w13.frozen? ⟨go5,(x5_1:Int).toNat * 6 + 2,none⟩=false:=hfr6 2;have hf6_3:w13.frozen? ⟨go5,(x5_1:Int).toNat * 6 + 3,none⟩=false:=hfr6 3;have hf6_4:w13.frozen? ⟨go5,(x5_1:Int).toNat * 6 + 4,none⟩=false:=hfr6 4;have hf6_5:w13.frozen? ⟨go5,(x5_1:Int).toNat * 6 + 5,none⟩=false:=hfr6 5;clear hcl6 hcc6 hfr6 hM6;replace p6:=eq_true p6;replace q6:=eq_true q6;have HX14:=D (show Kd.S k50 50 w13 w0.heap.size (fun k_=>((fun k_=>(P0_ k_ ∨ w.heap.size≤k_))) k_∧¬ ((fun _=>False)) k_) (Y (some ⟨go5,0,none⟩) x0_1.length Ka) y436 from (pS_ (Kd.S_mono Ja.out (fun k_ hk=>⟨hk,fun e_=>e_⟩))));obtain ⟨oki14,ce14,hcl14,hM14,hcc14,hfr14,hoki14,hH14⟩:=Kd.S_elem HX14.out z50 (x5_1:Int) (od_ Z43) (by have h_:(x5_1:Int) < ((x0_1.length:Int):Int):=od_ Z43;first|exact h_|(have e_:=(Kd.S_reads' Ja.out).1;omega)|simpa using h_);obtain ⟨ve14_5,rfl,ge14_5⟩:=k50_openM hM14;have HP14:=Kd.S_seg hH14 (od_ Z43) (by have h_:(x5_1:Int) < ((x0_1.length:Int):Int):=od_ Z43;first|exact h_|(have e_:=(Kd.S_reads' Ja.out).1;omega)|simpa using h_) (seg:=[I L (wrap64 (x1_1 + 1))]) (j:=1) (show 2≤6 from by decide) (x':=(⟨(rd_T50 y436 x5_1).f0,(⟨wrap64 (x1_1 + 1),(⟨(rd_T50 y436 x5_1).f1.f1.f0,(rd_T50 y436 x5_1).f1.f1.f1,(rd_T50 y436 x5_1).f1.f1.f2⟩:S31),(rd_T50 y436 x5_1).f1.f2⟩:S34)⟩:S50)) (k50_mkM _ _ _ (⟨(rd_T50 y436 x5_1).f0,(⟨wrap64 (x1_1 + 1),(⟨(rd_T50 y436 x5_1).f1.f1.f0,(rd_T50 y436 x5_1).f1.f1.f1,(rd_T50 y436 x5_1).f1.f1.f2⟩:S31),(rd_T50 y436 x5_1).f1.f2⟩:S34)⟩:S50) (Kd.R_mono ge14_5 (fun _ h_=>Or.inl h_))) (fun _ hk=>hk) (fun k_ hk_=>hk_.elim);have hx14_1:=hcc14 1 _ rfl;(try simp only [show (k50).sz=6 from rfl,Nat.mul_one,Nat.add_zero] at hx14_1);have hf14_1:=hfr14 1;(try simp only [show (k50).sz=6 from rfl,Nat.mul_one,Nat.add_zero] at hf14_1);clear hcl14 hcc14 hfr14 hM14 hoki14 hH14)|((with_reducible refine gate_store (t:=3) (p:=24) rfl ?_);refine store_event (t:=3) (p:=24) (v:=?vo_w15) (w1:=(w13.setCell ⟨go5,(x5_1:Int).toNat * 6 + 1,none⟩ (I L (wrap64 (x1_1 + 1))))) ?hg ?ho ?hn ?hr ?_;(case ho=>rfl);(case hg=>rfl);(case hn=>rfl);(case hr=>first|(go_simp;done)|(go_simp;rfl));intro w15 hw;have hg:w13.grownBy w15 (some go5):=(by rw [hw];exact HP14.2);have hp_:Kd.S k50 50 w15 w0.heap.size (fun k_=>(P0_ k_ ∨ w.heap.size≤k_)) (Y (some ⟨go5,0,none⟩) x0_1.length Ka) y437:=(by rw [hw,Ny437.out];exact HP14.1);clear HP14;have n_:=an_ (hp_)<|an_ ((by rw [hw];exact below_set (HB.out) GB5.out:Below w0.heap.size w0 w15))<|D (Kept.of_grown (S:=(fun k_=>P0_ k_)) hg Z13 (fun k_ e_=>((Kd.S_R Ja.out).1 k_ e_)));clear Ja HB HK;obtain ⟨Ja,HB,HK⟩:=n_;clear hg hw hp_;have p7:0≤(x5_1:Int):=od_ Z43;have q7:(x5_1:Int) < ((x0_1.length:Int):Int):=od_ Z43;obtain ⟨_,ce7,hcl7,hM7,hcc7,hfr7,_,_⟩:=Kd.S_elem Ja.out z50 (x5_1:Int) p7 q7;obtain ⟨ve7_5,rfl,ge7_5⟩:=k50_openM hM7;have hx7_0:w15.cell? ⟨go5,(x5_1:Int).toNat * 6,none⟩=some (I L ((rd_T50 y437 x5_1).f0)):=hcc7 0 _ rfl;have hx7_1:w15.cell? ⟨go5,(x5_1:Int).toNat * 6 + 1,none⟩=some (I L ((rd_T50 y437 x5_1).f1.f0)):=hcc7 1 _ rfl;have hx7_2:w15.cell? ⟨go5,(x5_1:Int).toNat * 6 + 2,none⟩=some (I L ((rd_T50 y437 x5_1).f1.f1.f0)):=hcc7 2 _ rfl;have hx7_3:w15.cell? ⟨go5,(x5_1:Int).toNat * 6 + 3,none⟩=some (I L ((rd_T50 y437 x5_1).f1.f1.f1)):=hcc7 3 _ rfl;have hx7_4:w15.cell? ⟨go5,(x5_1:Int).toNat * 6 + 4,none⟩=some (I L ((rd_T50 y437 x5_1).f1.f1.f2)):=hcc7 4 _ rfl;have hx7_5:w15.cell? ⟨go5,(x5_1:Int).toNat * 6 + 5,none⟩=some (ve7_5):=hcc7 5 _ rfl;have hf7_0:w15.frozen? ⟨go5,(x5_1:Int).toNat * 6,none⟩=false:=hfr7 0;have hf7_1:w15.frozen? ⟨go5,(x5_1:Int).toNat * 6 + 1,none⟩=false:=hfr7 1;have hf7_2:w15.frozen? ⟨go5,(x5_1:Int).toNat * 6 + 2,none⟩=false:=hfr7 2;have hf7_3:w15.frozen? ⟨go5,(x5_1:Int).toNat * 6 + 3,none⟩=false:=hfr7 3;have hf7_4:w15.frozen? ⟨go5,(x5_1:Int).toNat * 6 + 4,none⟩=false:=hfr7 4;have hf7_5:w15.frozen? ⟨go5,(x5_1:Int).toNat * 6 + 5,none⟩=false:=hfr7 5;clear hcl7 hcc7 hfr7 hM7;replace p7:=eq_true p7;replace q7:=eq_true q7;have HX16:=D (show Kd.S k50 50 w15 w0.heap.size (fun k_=>((fun k_=>(P0_ k_ ∨ w.heap.size≤k_))) k_∧¬ ((fun _=>False)) k_) (Y (some ⟨go5,0,none⟩) x0_1.length Ka) y437 from (pS_ (Kd.S_mono Ja.out (fun k_ hk=>⟨hk,fun e_=>e_⟩))));obtain ⟨oki16,ce16,hcl16,hM16,hcc16,hfr16,hoki16,hH16⟩:=Kd.S_elem HX16.out z50 (x5_1:Int) (od_ Z43) (by have h_:(x5_1:Int) < ((x0_1.length:Int):Int):=od_ Z43;first|exact h_|(have e_:=(Kd.S_reads' Ja.out).1;omega)|simpa using h_);obtain ⟨ve16_5,rfl,ge16_5⟩:=k50_openM hM16;have HP16:=Kd.S_seg hH16 (od_ Z43) (by have h_:(x5_1:Int) < ((x0_1.length:Int):Int):=od_ Z43;first|exact h_|(have e_:=(Kd.S_reads' Ja.out).1;omega)|simpa using h_) (seg:=[I L (wrap64 ((wrap64 (x1_1 + 1)) + 1))]) (j:=2) (show 3≤6 from by decide) (x':=(⟨(rd_T50 y437 x5_1).f0,(⟨(rd_T50 y437 x5_1).f1.f0,(⟨wrap64 ((wrap64 (x1_1 + 1)) + 1),(rd_T50 y437 x5_1).f1.f1.f1,(rd_T50 y437 x5_1).f1.f1.f2⟩:S31),(rd_T50 y437 x5_1).f1.f2⟩:S34)⟩:S50)) (k50_mkM _ _ _ (⟨(rd_T50 y437 x5_1).f0,(⟨(rd_T50 y437 x5_1).f1.f0,(⟨wrap64 ((wrap64 (x1_1 + 1)) + 1),(rd_T50 y437 x5_1).f1.f1.f1,(rd_T50 y437 x5_1).f1.f1.f2⟩:S31),(rd_T50 y437 x5_1).f1.f2⟩:S34)⟩:S50) (Kd.R_mono ge16_5 (fun _ h_=>Or.inl h_))) (fun _ hk=>hk) (fun k_ hk_=>hk_.elim);have hx16_2:=hcc16 2 _ rfl;(try simp only [show (k50).sz=6 from rfl,Nat.mul_one,Nat.add_zero] at hx16_2);have hf16_2:=hfr16 2;(try simp only [show (k50).sz=6 from rfl,Nat.mul_one,Nat.add_zero] at hf16_2);clear hcl16 hcc16 hfr16 hM16 hoki16 hH16)|((with_reducible refine gate_store (t:=3) (p:=33) rfl ?_);refine store_event (t:=3) (p:=33) (v:=?vo_w17) (w1:=(w15.setCell ⟨go5,(x5_1:Int).toNat * 6 + 2,none⟩ (I L (wrap64 ((wrap64 (x1_1 + 1)) + 1))))) ?hg ?ho ?hn ?hr ?_;(case ho=>rfl);(case hg=>rfl);(case hn=>rfl);(case hr=>first|(go_simp;done)|(go_simp;rfl));intro w17 hw;have hg:w15.grownBy w17 (some go5):=(by rw [hw];exact HP16.2);have hp_:Kd.S k50 50 w17 w0.heap.size (fun k_=>(P0_ k_ ∨ w.heap.size≤k_)) (Y (some ⟨go5,0,none⟩) x0_1.length Ka) y438:=(by rw [hw,Ny438.out];exact HP16.1);clear HP16;have n_:=an_ (hp_)<|an_ ((by rw [hw];exact below_set (HB.out) GB5.out:Below w0.heap.size w0 w17))<|D (Kept.of_grown (S:=(fun k_=>P0_ k_)) hg Z13 (fun k_ e_=>((Kd.S_R Ja.out).1 k_ e_)));clear Ja HB HK;obtain ⟨Ja,HB,HK⟩:=n_;clear hg hw hp_;have p8:0≤(x5_1:Int):=od_ Z43;have q8:(x5_1:Int) < ((x0_1.length:Int):Int):=od_ Z43;obtain ⟨_,ce8,hcl8,hM8,hcc8,hfr8,_,_⟩:=Kd.S_elem Ja.out z50 (x5_1:Int) p8 q8;obtain ⟨ve8_5,rfl,ge8_5⟩:=k50_openM hM8;have hx8_0:w17.cell? ⟨go5,(x5_1:Int).toNat * 6,none⟩=some (I L ((rd_T50 y438 x5_1).f0)):=hcc8 0 _ rfl;have hx8_1:w17.cell? ⟨go5,(x5_1:Int).toNat * 6 + 1,none⟩=some (I L ((rd_T50 y438 x5_1).f1.f0)):=hcc8 1 _ rfl;have hx8_2:w17.cell? ⟨go5,(x5_1:Int).toNat * 6 + 2,none⟩=some (I L ((rd_T50 y438 x5_1).f1.f1.f0)):=hcc8 2 _ rfl;have hx8_3:w17.cell? ⟨go5,(x5_1:Int).toNat * 6 + 3,none⟩=some (I L ((rd_T50 y438 x5_1).f1.f1.f1)):=hcc8 3 _ rfl;have hx8_4:w17.cell? ⟨go5,(x5_1:Int).toNat * 6 + 4,none⟩=some (I L ((rd_T50 y438 x5_1).f1.f1.f2)):=hcc8 4 _ rfl;have hx8_5:w17.cell? ⟨go5,(x5_1:Int).toNat * 6 + 5,none⟩=some (ve8_5):=hcc8 5 _ rfl;have hf8_0:w17.frozen? ⟨go5,(x5_1:Int).toNat * 6,none⟩=false:=hfr8 0;have hf8_1:w17.frozen? ⟨go5,(x5_1:Int).toNat * 6 + 1,none⟩=false:=hfr8 1;have hf8_2:w17.frozen? ⟨go5,(x5_1:Int).toNat * 6 + 2,none⟩=false:=hfr8 2;have hf8_3:w17.frozen? ⟨go5,(x5_1:Int).toNat * 6 + 3,none⟩=false:=hfr8 3;have hf8_4:w17.frozen? ⟨go5,(x5_1:Int).toNat * 6 + 4,none⟩=false:=hfr8 4;have hf8_5:w17.frozen? ⟨go5,(x5_1:Int).toNat * 6 + 5,none⟩=false:=hfr8 5;clear hcl8 hcc8 hfr8 hM8;replace p8:=eq_true p8;replace q8:=eq_true q8;have HX18:=D (show Kd.S k50 50 w17 w0.heap.size (fun k_=>((fun k_=>(P0_ k_ ∨ w.heap.size≤k_))) k_∧¬ ((fun _=>False)) k_) (Y (some ⟨go5,0,none⟩) x0_1.length Ka) y438 from (pS_ (Kd.S_mono Ja.out (fun k_ hk=>⟨hk,fun e_=>e_⟩))));obtain ⟨oki18,ce18,hcl18,hM18,hcc18,hfr18,hoki18,hH18⟩:=Kd.S_elem HX18.out z50 (x5_1:Int) (od_ Z43) (by have h_:(x5_1:Int) < ((x0_1.length:Int):Int):=od_ Z43;first|exact h_|(have e_:=(Kd.S_reads' Ja.out).1;omega)|simpa using h_);obtain ⟨ve18_5,rfl,ge18_5⟩:=k50_openM hM18;have HP18:=Kd.S_seg hH18 (od_ Z43) (by have h_:(x5_1:Int) < ((x0_1.length:Int):Int):=od_ Z43;first|exact h_|(have e_:=(Kd.S_reads' Ja.out).1;omega)|simpa using h_) (seg:=[I L (wrap64 ((wrap64 ((wrap64 (x1_1 + 1)) + 1)) + 1))]) (j:=3) (show 4≤6 from by decide) (x':=(⟨(rd_T50 y438 x5_1).f0,(⟨(rd_T50 y438 x5_1).f1.f0,(⟨(rd_T50 y438 x5_1).f1.f1.f0,wrap64 ((wrap64 ((wrap64 (x1_1 + 1)) + 1)) + 1),(rd_T50 y438 x5_1).f1.f1.f2⟩:S31),(rd_T50 y438 x5_1).f1.f2⟩:S34)⟩:S50)) (k50_mkM _ _ _ (⟨(rd_T50 y438 x5_1).f0,(⟨(rd_T50 y438 x5_1).f1.f0,(⟨(rd_T50 y438 x5_1).f1.f1.f0,wrap64 ((wrap64 ((wrap64 (x1_1 + 1)) + 1)) + 1),(rd_T50 y438 x5_1).f1.f1.f2⟩:S31),(rd_T50 y438 x5_1).f1.f2⟩:S34)⟩:S50) (Kd.R_mono ge18_5 (fun _ h_=>Or.inl h_))) (fun _ hk=>hk) (fun k_ hk_=>hk_.elim);have hx18_3:=hcc18 3 _ rfl;(try simp only [show (k50).sz=6 from rfl,Nat.mul_one,Nat.add_zero] at hx18_3);have hf18_3:=hfr18 3;(try simp only [show (k50).sz=6 from rfl,Nat.mul_one,Nat.add_zero] at hf18_3);clear hcl18 hcc18 hfr18 hM18 hoki18 hH18)|((with_reducible refine gate_store (t:=3) (p:=42) rfl ?_);refine store_event (t:=3) (p:=42) (v:=?vo_w19) (w1:=(w17.setCell ⟨go5,(x5_1:Int).toNat * 6 + 3,none⟩ (I L (wrap64 ((wrap64 ((wrap64 (x1_1 + 1)) + 1)) + 1))))) ?hg ?ho ?hn ?hr ?_;(case ho=>rfl);(case hg=>rfl);(case hn=>rfl);(case hr=>first|(go_simp;done)|(go_simp;rfl));intro w19 hw;have hg:w17.grownBy w19 (some go5):=(by rw [hw];exact HP18.2);have hp_:Kd.S k50 50 w19 w0.heap.size (fun k_=>(P0_ k_ ∨ w.heap.size≤k_)) (Y (some ⟨go5,0,none⟩) x0_1.length Ka) y439:=(by rw [hw,Ny439.out];exact HP18.1);clear HP18;have n_:=an_ (hp_)<|an_ ((by rw [hw];exact below_set (HB.out) GB5.out:Below w0.heap.size w0 w19))<|D (Kept.of_grown (S:=(fun k_=>P0_ k_)) hg Z13 (fun k_ e_=>((Kd.S_R Ja.out).1 k_ e_)));clear Ja HB HK;obtain ⟨Ja,HB,HK⟩:=n_;clear hg hw hp_;have p9:0≤(x5_1:Int):=od_ Z43;have q9:(x5_1:Int) < ((x0_1.length:Int):Int):=od_ Z43;obtain ⟨_,ce9,hcl9,hM9,hcc9,hfr9,_,_⟩:=Kd.S_elem Ja.out z50 (x5_1:Int) p9 q9;obtain ⟨ve9_5,rfl,ge9_5⟩:=k50_openM hM9;have hx9_0:w19.cell? ⟨go5,(x5_1:Int).toNat * 6,none⟩=some (I L ((rd_T50 y439 x5_1).f0)):=hcc9 0 _ rfl;have hx9_1:w19.cell? ⟨go5,(x5_1:Int).toNat * 6 + 1,none⟩=some (I L ((rd_T50 y439 x5_1).f1.f0)):=hcc9 1 _ rfl;have hx9_2:w19.cell? ⟨go5,(x5_1:Int).toNat * 6 + 2,none⟩=some (I L ((rd_T50 y439 x5_1).f1.f1.f0)):=hcc9 2 _ rfl;have hx9_3:w19.cell? ⟨go5,(x5_1:Int).toNat * 6 + 3,none⟩=some (I L ((rd_T50 y439 x5_1).f1.f1.f1)):=hcc9 3 _ rfl;have hx9_4:w19.cell? ⟨go5,(x5_1:Int).toNat * 6 + 4,none⟩=some (I L ((rd_T50 y439 x5_1).f1.f1.f2)):=hcc9 4 _ rfl;have hx9_5:w19.cell? ⟨go5,(x5_1:Int).toNat * 6 + 5,none⟩=some (ve9_5):=hcc9 5 _ rfl;have hf9_0:w19.frozen? ⟨go5,(x5_1:Int).toNat * 6,none⟩=false:=hfr9 0;have hf9_1:w19.frozen? ⟨go5,(x5_1:Int).toNat * 6 + 1,none⟩=false:=hfr9 1;have hf9_2:w19.frozen? ⟨go5,(x5_1:Int).toNat * 6 + 2,none⟩=false:=hfr9 2;have hf9_3:w19.frozen? ⟨go5,(x5_1:Int).toNat * 6 + 3,none⟩=false:=hfr9 3;have hf9_4:w19.frozen? ⟨go5,(x5_1:Int).toNat * 6 + 4,none⟩=false:=hfr9 4;have hf9_5:w19.frozen? ⟨go5,(x5_1:Int).toNat * 6 + 5,none⟩=false:=hfr9 5;clear hcl9 hcc9 hfr9 hM9;replace p9:=eq_true p9;replace q9:=eq_true q9;have HX20:=D (show Kd.S k50 50 w19 w0.heap.size (fun k_=>((fun k_=>(P0_ k_ ∨ w.heap.size≤k_))) k_∧¬ ((fun _=>False)) k_) (Y (some ⟨go5,0,none⟩) x0_1.length Ka) y439 from (pS_ (Kd.S_mono Ja.out (fun k_ hk=>⟨hk,fun e_=>e_⟩))));obtain ⟨oki20,ce20,hcl20,hM20,hcc20,hfr20,hoki20,hH20⟩:=Kd.S_elem HX20.out z50 (x5_1:Int) (od_ Z43) (by have h_:(x5_1:Int) < ((x0_1.length:Int):Int):=od_ Z43;first|exact h_|(have e_:=(Kd.S_reads' Ja.out).1;omega)|simpa using h_);obtain ⟨ve20_5,rfl,ge20_5⟩:=k50_openM hM20;have HP20:=Kd.S_seg hH20 (od_ Z43) (by have h_:(x5_1:Int) < ((x0_1.length:Int):Int):=od_ Z43;first|exact h_|(have e_:=(Kd.S_reads' Ja.out).1;omega)|simpa using h_) (seg:=[I L (wrap64 ((wrap64 ((wrap64 ((wrap64 (x1_1 + 1)) + 1)) + 1)) + 1))]) (j:=4) (show 5≤6 from by decide) (x':=(⟨(rd_T50 y439 x5_1).f0,(⟨(rd_T50 y439 x5_1).f1.f0,(⟨(rd_T50 y439 x5_1).f1.f1.f0,(rd_T50 y439 x5_1).f1.f1.f1,wrap64 ((wrap64 ((wrap64 ((wrap64 (x1_1 + 1)) + 1)) + 1)) + 1)⟩:S31),(rd_T50 y439 x5_1).f1.f2⟩:S34)⟩:S50)) (k50_mkM _ _ _ (⟨(rd_T50 y439 x5_1).f0,(⟨(rd_T50 y439 x5_1).f1.f0,(⟨(rd_T50 y439 x5_1).f1.f1.f0,(rd_T50 y439 x5_1).f1.f1.f1,wrap64 ((wrap64 ((wrap64 ((wrap64 (x1_1 + 1)) + 1)) + 1)) + 1)⟩:S31),(rd_T50 y439 x5_1).f1.f2⟩:S34)⟩:S50) (Kd.R_mono ge20_5 (fun _ h_=>Or.inl h_))) (fun _ hk=>hk) (fun k_ hk_=>hk_.elim);have hx20_4:=hcc20 4 _ rfl;(try simp only [show (k50).sz=6 from rfl,Nat.mul_one,Nat.add_zero] at hx20_4);have hf20_4:=hfr20 4;(try simp only [show (k50).sz=6 from rfl,Nat.mul_one,Nat.add_zero] at hf20_4);clear hcl20 hcc20 hfr20 hM20 hoki20 hH20)|((with_reducible refine gate_store (t:=3) (p:=51) rfl ?_);refine store_event (t:=3) (p:=51) (v:=?vo_w21) (w1:=(w19.setCell ⟨go5,(x5_1:Int).toNat * 6 + 4,none⟩ (I L (wrap64 ((wrap64 ((wrap64 ((wrap64 (x1_1 + 1)) + 1)) + 1)) + 1))))) ?hg ?ho ?hn ?hr ?_;(case ho=>rfl);(case hg=>rfl);(case hn=>rfl);(case hr=>first|(go_simp;done)|(go_simp;rfl));intro w21 hw;have hg:w19.grownBy w21 (some go5):=(by rw [hw];exact HP20.2);have hp_:Kd.S k50 50 w21 w0.heap.size (fun k_=>(P0_ k_ ∨ w.heap.size≤k_)) (Y (some ⟨go5,0,none⟩) x0_1.length Ka) y440:=(by rw [hw,Ny440.out];exact HP20.1);clear HP20;have n_:=an_ (hp_)<|an_ ((by rw [hw];exact below_set (HB.out) GB5.out:Below w0.heap.size w0 w21))<|D (Kept.of_grown (S:=(fun k_=>P0_ k_)) hg Z13 (fun k_ e_=>((Kd.S_R Ja.out).1 k_ e_)));clear Ja HB HK;obtain ⟨Ja,HB,HK⟩:=n_;clear hg hw hp_;have p441:0≤(x5_1:Int):=od_ Z43;have q441:x5_1 < (y440.length:Int):=(by have h_:(x5_1:Int) < ((x0_1.length:Int):Int):=od_ Z43;first|(have e_:=(Kd.S_reads' Ja.out).1;omega)|simpa only [Ny436.out,Ny437.out,Ny438.out,Ny439.out,Ny440.out,List.length_set] using h_);have ql441:((x5_1:Int) < ((x0_1.length:Int):Int))=True:=eq_true (od_ Z43);obtain ⟨ad441,A441_5,c441_5,e441,hx441_0,hx441_1,hx441_2,hx441_3,hx441_4,hx441_5,hl441_5,hi441_5⟩:=at_T50 (Kd.S_reads' Ja.out).2.2 x5_1 p441 q441;obtain rfl:(⟨go5,0,none⟩:Addr)=ad441:=(by injection e441);obtain ⟨ce441,hce441,hMe441,hcc441⟩:=Kd.S_get Ja.out z50 x5_1 p441 (by first|exact q441|exact od_ Z43|(have e_:=(Kd.S_reads' Ja.out).1;omega));obtain ⟨ve441_5,rfl,ge441_5⟩:=k50_openM hMe441;have hv441_5:=hcc441 5 _ rfl;rw [add_field _ _ 5 (by omega)] at hv441_5;replace hv441_5:=Option.some.inj (hv441_5.symm.trans hx441_5);rw [hv441_5] at ge441_5;have Oa:=D (show Kd.R k57 57 _ _ _ _ ((rd_T50 y440 x5_1).f1.f2) from ge441_5);clear hv441_5 ge441_5;have HX441_5:=D hx441_5;clear hcc441 hce441;(first|simp only [add_plain] at hx441_0|simp only [add_at] at hx441_0|simp only [Addr.add,Nat.zero_add] at hx441_0|skip);(first|simp only [add_plain] at hx441_1|simp only [add_at] at hx441_1|simp only [Addr.add,Nat.zero_add] at hx441_1|skip);(first|simp only [add_plain] at hx441_2|simp only [add_at] at hx441_2|simp only [Addr.add,Nat.zero_add] at hx441_2|skip);(first|simp only [add_plain] at hx441_3|simp only [add_at] at hx441_3|simp only [Addr.add,Nat.zero_add] at hx441_3|skip);(first|simp only [add_plain] at hx441_4|simp only [add_at] at hx441_4|simp only [Addr.add,Nat.zero_add] at hx441_4|skip);(first|simp only [add_plain] at hx441_5|simp only [add_at] at hx441_5|simp only [Addr.add,Nat.zero_add] at hx441_5|skip);have HR441_5:=D hi441_5;have HC441_5:=D hl441_5;clear hi441_5 hl441_5;replace p441:=eq_true p441;replace q441:=eq_true q441)|((with_reducible refine gate_callee (f:=46) rfl ?_);refine goesL_ (some 61) rfl rfl Try.func46 (by kernel_rfl) rfl #[Y A441_5 ((rd_T50 y440 x5_1).f1.f2).length c441_5,I L (wrap64 ((wrap64 ((wrap64 ((wrap64 ((wrap64 (x1_1 + 1)) + 1)) + 1)) + 1)) + 1))] rfl Z12 ?_;(with_reducible refine (laws_markKidS.calls k1 (fun k_=>some k_=(Y A441_5 ((rd_T50 y440 x5_1).f1.f2).length c441_5:Value).ownBlock) (Y A441_5 ((rd_T50 y440 x5_1).f1.f2).length c441_5) ((rd_T50 y440 x5_1).f1.f2) (wrap64 ((wrap64 ((wrap64 ((wrap64 ((wrap64 (x1_1 + 1)) + 1)) + 1)) + 1)) + 1)) Ua Ma w0 _ ?side1 ?side2 A10.out).mono ?_);(case side1=>exact pB_ HB.out);(case side2=>exact Kd.R_tight rfl Oa.out);rintro e w23 ⟨rfl,hy0,hb,hkp⟩;refine ⟨_,rfl,?_⟩;have hq22:(x5_1:Int) < (y440.length:Int):=(by have h_:(x5_1:Int) < ((x0_1.length:Int):Int):=od_ Z43;first|exact h_|(have e_:=(Kd.S_reads' Ja.out).1;omega)|simpa only [Ny436.out,Ny437.out,Ny438.out,Ny439.out,Ny440.out,List.length_set] using h_);obtain ⟨oki22,ce22,hcl22,hM22,hcc22,hok22,hbk22⟩:=S_borrowK Ja.out z50 (x5_1:Int) (od_ Z43) (by first|exact hq22|(have e_:=(Kd.S_reads' Ja.out).1;omega));obtain ⟨ve22_5,rfl,ge22_5⟩:=k50_openM hM22;have hv22:=hcc22 5 _ rfl;rw [add_field _ _ 5 (by omega)] at hv22;replace hv22:=Option.some.inj (hv22.symm.trans HX441_5.out);subst hv22;clear hcc22 hcl22;replace ge22_5:=(show Kd.R k57 57 _ _ _ _ ((rd_T50 y440 x5_1).f1.f2) from ge22_5);have n_:=an_ (hbk22 hkp (fun k_ e_=>ge22_5.1 k_ e_.symm) (x':=(⟨(rd_T50 y440 x5_1).f0,(⟨(rd_T50 y440 x5_1).f1.f0,(⟨(rd_T50 y440 x5_1).f1.f1.f0,(rd_T50 y440 x5_1).f1.f1.f1,(rd_T50 y440 x5_1).f1.f1.f2⟩:S31),Ma⟩:S34)⟩:S50)) (k50_mkM _ _ _ (⟨(rd_T50 y440 x5_1).f0,(⟨(rd_T50 y440 x5_1).f1.f0,(⟨(rd_T50 y440 x5_1).f1.f1.f0,(rd_T50 y440 x5_1).f1.f1.f1,(rd_T50 y440 x5_1).f1.f1.f2⟩:S31),Ma⟩:S34)⟩:S50) (Kd.R_reok rfl hy0 (fun k_ e_=>ge22_5.1 k_ e_))))<|an_ (Kept.then_ (S:=(fun k_=>P0_ k_)) Z13 hkp (fun k_ hs_=>(fun e_=>(Oa.out.1 k_ e_.symm).1) hs_))<|D (hb);clear Ja HK HB Oa;obtain ⟨Ja,HK,HB⟩:=n_;(try clear hb);(try clear hkp);(try clear hy0);(try clear hok22);(try clear hbk22);(try clear ge22_5)))
     go_roundg k1
     case measure => have := HK1.out; omega
     case rel=>exact ⟨(y440.set (x5_1:Int).toNat (⟨(rd_T50 y440 x5_1).f0,(⟨(rd_T50 y440 x5_1).f1.f0,(⟨(rd_T50 y440 x5_1).f1.f1.f0,(rd_T50 y440 x5_1).f1.f1.f1,(rd_T50 y440 x5_1).f1.f1.f2⟩:S31),Ma⟩:S34)⟩:S50)),(Ua),(wrap64 (x5_1 + 1)),Z44,Z44,H',⟨by have:=HK1.out;omega⟩,⟨pS_ Ja.out⟩,⟨by repeat (first|(with_reducible first|exact HK.out|apply Kept.alloc|apply Kept.drewN|apply Kept.drew)|exact HK.out)⟩,⟨pB_ HB.out⟩⟩
    ·rw [if_neg c4] at H
     exact absurd H (by simp)
   ·rw [if_neg c3] at H
    have c3b0:decide (x5_1 < (x0_1.length:Int))=false:=decide_eq_false c3;clear c3;simp only [Option.some.injEq,Prod.mk.injEq] at H;obtain ⟨rfl,rfl⟩:=H;obtain ⟨Ob,Ub,eo24⟩:=Kd.S_slice Ja.out;subst eo24
    go_wp2
    go_ret;exact ⟨er_,by (with_reducible repeat (first|apply Kd.S_alloc|apply Kd.S_drewN|apply Kd.S_drew));exact Ja.out,pB_ HB.out,by repeat (first|(with_reducible first|exact HK.out|apply Kept.alloc|apply Kept.drewN|apply Kept.drew)|exact HK.out)⟩

/-! ### laws_markTree: function 9 -/
def laws_markTree.f (k : Nat) (a0_0 a0_1 a0_2 a0_3 : Int) (l0_4 : List (S57)) (l0_5 : List (S50)) (a1 : Int) : Option (Int × (List (S57)) × (List (S50))) := (laws_markFair.f k a0_0 a0_1 a0_2 a0_3 l0_4 a1).bind fun bt445 => ((laws_markBranchS.f k l0_5 bt445.1).bind fun bt447 => (some (bt447.1, bt445.2, bt447.2)))
set_option maxHeartbeats 8000000 in
set_option maxRecDepth 100000 in
theorem laws_markTree.calls (k : Nat) (a0_0 a0_1 a0_2 a0_3 : Int) (P0_4_ : Nat → Prop) (u9000_ : Value) (l0_4 : List (S57)) (P0_5_ : Nat → Prop) (u9001_ : Value) (l0_5 : List (S50)) (a1 r1 : Int) (r2 : List (S57)) (r3 : List (S50)) (w0 w : World) (hB : Below w0.heap.size w0 w) (ho0_4 : Kd.R k57 57 w w0.heap.size P0_4_ u9000_ l0_4) (ho0_5 : Kd.S k50 50 w w0.heap.size P0_5_ u9001_ l0_5) (hp0_5_0_4 : ∀ k_, P0_5_ k_ → ¬ P0_4_ k_) (h : laws_markTree.f k a0_0 a0_1 a0_2 a0_3 l0_4 l0_5 a1 = some (r1, r2, r3)) :
  Calls Try.prog 9 #[.agg #[I L a0_0,I L a0_1,I L a0_2,I L a0_3,u9000_,u9001_],I L a1] w fun e w'=>e=.returned (I L r1)∧Kd.R k57 57 w' w0.heap.size (fun k_=>((P0_4_ k_ ∨ P0_5_ k_) ∨ w.heap.size≤k_)) u9000_ r2∧Kd.S k50 50 w' w0.heap.size (fun k_=>((P0_4_ k_ ∨ P0_5_ k_) ∨ w.heap.size≤k_)∧some k_≠(u9000_:Value).ownBlock) u9001_ r3∧Below w0.heap.size w0 w'∧Kept w w' (fun k_=>P0_4_ k_ ∨ P0_5_ k_):=by
 have hu37 := Try.underlying37
 have hu34 := Try.underlying34
 have HO0_4 := D (show Kd.R k57 57 w w0.heap.size (fun k_ => ((P0_4_ k_ ∨ P0_5_ k_) ∨ w.heap.size ≤ k_)) u9000_ l0_4 from Kd.R_mono ho0_4 (fun k_ hk => (.inl (.inl hk))))
 have HO0_5:=D (show Kd.S k50 50 w w0.heap.size (fun k_=>((P0_4_ k_ ∨ P0_5_ k_) ∨ w.heap.size≤k_)∧some k_≠(u9000_:Value).ownBlock) u9001_ l0_5 from Kd.S_mono ho0_5 (fun k_ hk=>⟨(.inl (.inr hk)),fun e_=>hp0_5_0_4 k_ hk (ho0_4.1 k_ e_.symm)⟩))
 have HK := D (Kept.refl w (fun k_ => P0_4_ k_ ∨ P0_5_ k_))
 have HW0 := D hB.size
 have HB := D hB
 clear hB
 have H : ((laws_markFair.f k a0_0 a0_1 a0_2 a0_3 l0_4 a1).bind fun bt445 => ((laws_markBranchS.f k l0_5 bt445.1).bind fun bt447 => (some (bt447.1, bt445.2, bt447.2)))) = some (r1, r2, r3) := h
 clear h
 obtain ⟨⟨t445, t446⟩, A30, H⟩ := bs_.mp H
 (try dsimp only at H)
 have A3 := D A30
 clear A30
 obtain ⟨⟨t447, t448⟩, A40, H⟩ := bs_.mp H
 (try dsimp only at H)
 have A4 := D A40
 clear A40
 simp only [Option.some.injEq, Prod.mk.injEq] at H
 obtain ⟨rfl, rfl, rfl⟩ := H
 obtain ⟨Ao5, co5, eo5⟩ := Kd.R_slice HO0_4.out
 subst eo5
 obtain ⟨Ao6, co6, eo6⟩ := Kd.S_slice HO0_5.out
 subst eo6
 go_enter Try.func9, Try.ntmps9
 go_wp2_with (first|((with_reducible refine gate_dst (N:=2) rfl ?_);refine bx_ (N:=2) (cs:=#[I L a0_0,I L a0_1,I L a0_2,I L a0_3,Y Ao5 l0_4.length co5,Y Ao6 l0_5.length co6]) (t:=37) ?_;intro gb444 hg w7 hbox hb;have n_:=an_ (Kd.R_below (pR_ HO0_4.out) hb)<|an_ (Kd.S_below (pS_ HO0_5.out) hb)<|an_ (Kept.below (S:=(fun k_=>P0_4_ k_ ∨ P0_5_ k_)) Z13 hb)<|an_ (below_step (pB_ HB.out) hb)<|an_ (hbox)<|an_ ((by rw [hg];exact (by first|exact HK.out.1|exact (show Kept w _ (fun k_=>P0_4_ k_ ∨ P0_5_ k_) from by repeat (first|(with_reducible first|exact HK.out|apply Kept.alloc|apply Kept.drewN|apply Kept.drew)|exact HK.out)).1):w.heap.size≤gb444))<|D (by rw [hg];exact (below_size (pB_ HB.out)):w0.heap.size≤gb444);clear HO0_4 HO0_5 HK HB;obtain ⟨HO0_4,HO0_5,HK,HB,BK444,GW444,GE444⟩:=n_;clear hb hbox hg;have hcz8_0:=cells6 BK444.out)|((with_reducible refine gate_callee (f:=26) rfl ?_);refine goesL_ (some 8) rfl rfl Try.func26 (by kernel_rfl) rfl #[.agg #[I L a0_0,I L a0_1,I L a0_2,I L a0_3,Y Ao5 l0_4.length co5],I L a1] rfl Z12 ?_;(with_reducible refine (laws_markFair.calls k a0_0 a0_1 a0_2 a0_3 (fun k_=>some k_=(Y Ao5 l0_4.length co5:Value).ownBlock) (Y Ao5 l0_4.length co5) l0_4 a1 t445 t446 w0 _ ?side1 ?side2 A3.out).mono ?_);(case side1=>exact pB_ HB.out);(case side2=>exact Kd.R_tight rfl HO0_4.out);rintro e w9 ⟨rfl,hy0,hb,hkp⟩;refine ⟨_,rfl,?_⟩;have n_:=an_ (Kd.R_reok rfl hy0 (fun k_ e_=>HO0_4.out.1 k_ e_))<|an_ (Kd.S_mono (ok':=fun k_=>((P0_4_ k_ ∨ P0_5_ k_) ∨ w.heap.size≤k_)∧some k_≠(Y Ao5 l0_4.length co5:Value).ownBlock) (Kd.S_keptB (HO0_5.out) hkp (fun k_ hk_ hs_=>(hk_.2) hs_)) (fun k_ hk_=>⟨hk_.1.1,hk_.1.2⟩))<|an_ (blk_kept (pk_ BK444.out) hkp (fun hs_=>(fun e_=>(Kd.R_ne HO0_4.out BK444.out (by decide)) e_) hs_))<|an_ (Kept.then_ (S:=(fun k_=>P0_4_ k_ ∨ P0_5_ k_)) Z11 hkp (fun k_ hs_=>(fun e_=>(HO0_4.out.1 k_ e_.symm)) hs_))<|D (hb);clear HO0_4 HO0_5 BK444 HK HB;obtain ⟨HO0_4,HO0_5,BK444,HK,HB⟩:=n_;(try clear hb);(try clear hkp);(try clear hy0);have hcz10_0:=cells6 BK444.out)|((with_reducible refine gate_callee (f:=27) rfl ?_);refine goesL_ (some 12) rfl rfl Try.func27 (by kernel_rfl) rfl #[Y Ao6 l0_5.length co6,I L t445] rfl Z12 ?_;(with_reducible refine (laws_markBranchS.calls k (fun k_=>((((P0_4_ k_ ∨ P0_5_ k_) ∨ w.heap.size≤k_)∧some k_≠(Y Ao5 l0_4.length co5:Value).ownBlock)∧k_≠gb444)) (Y Ao6 l0_5.length co6) l0_5 t445 t447 t448 w0 _ ?side1 ?side2 A4.out).mono ?_);(case side1=>exact pB_ HB.out);(case side2=>exact (Kd.S_types HO0_5.out BK444.out (by decide)));rintro e w11 ⟨rfl,hy0,hb,hkp⟩;refine ⟨_,rfl,?_⟩;have n_:=an_ (Kd.R_mono (ok':=fun k_=>((P0_4_ k_ ∨ P0_5_ k_) ∨ w.heap.size≤k_)) (Kd.R_keptB ((Kd.R_mono (ok':=(fun k_=>((P0_4_ k_ ∨ P0_5_ k_) ∨ w.heap.size≤k_)∧¬ ((((P0_4_ k_ ∨ P0_5_ k_) ∨ w.heap.size≤k_)∧some k_≠(Y Ao5 l0_4.length co5:Value).ownBlock)∧k_≠gb444))) (Kd.R_tight2 rfl HO0_4.out) (fun k_ hk=>⟨hk.2,fun e_=>(e_.1.2) hk.1⟩))) hkp (fun k_ hk_ hs_=>(hk_.2) hs_)) (fun k_ hk_=>hk_.1.1))<|an_ (Kd.S_mono (ok':=fun k_=>((P0_4_ k_ ∨ P0_5_ k_) ∨ w.heap.size≤k_)∧some k_≠(Y Ao5 l0_4.length co5:Value).ownBlock∧k_≠gb444) hy0 (fun k_ hk=>Or.elim hk (fun e_=>⟨e_.1.1,e_.1.2,e_.2⟩) (fun hn_=>⟨.inr (Nat.le_trans (by first|exact HK.out.1|exact (show Kept w _ (fun k_=>P0_4_ k_ ∨ P0_5_ k_) from by repeat (first|(with_reducible first|exact HK.out|apply Kept.alloc|apply Kept.drewN|apply Kept.drew|refine Kept.setCell ?_ (.inr GW444.out) _)|exact HK.out)).1) hn_),(Kd.fresh' (Kd.R_lt (pR_ HO0_4.out)) k_ hn_),(Kd.freshB (pk_ BK444.out) k_ hn_)⟩)))<|an_ (blk_kept (pk_ BK444.out) hkp (fun hs_=>(fun e_=>(e_.2) rfl) hs_))<|an_ (Kept.then_ (S:=(fun k_=>P0_4_ k_ ∨ P0_5_ k_)) Z11 hkp (fun k_ hs_=>(fun e_=>e_.1.1) hs_))<|D (hb);clear HO0_4 HO0_5 BK444 HK HB;obtain ⟨HO0_4,HO0_5,BK444,HK,HB⟩:=n_;(try clear hb);(try clear hkp);(try clear hy0)))
 go_ret
 exact ⟨er_,by (with_reducible repeat (first|apply Kd.R_alloc|apply Kd.R_drewN|apply Kd.R_drew));exact HO0_4.out,by (with_reducible repeat (first|apply Kd.S_alloc|apply Kd.S_drewN|apply Kd.S_drew));exact Kd.S_mono HO0_5.out (fun _ hk=>⟨hk.1,hk.2.1⟩),pB_ HB.out,by repeat (first|(with_reducible first|exact HK.out|apply Kept.alloc|apply Kept.drewN|apply Kept.drew|refine Kept.setCell ?_ (.inr GW444.out) _)|exact HK.out)⟩

/-! ### laws_heldKidS: function 47 -/
def laws_heldKidS.l0 : Nat → List (S57) → Int → Int → Option (Int)
 | 0, _, _, _ => none
 | k + 1,x0,x1,x5=>if x5 < (x0.length:Int) then (if 0≤x5 then (if ((rd_T57 x0 x5).f0)=x1 then (if ((rd_T57 x0 x5).f1)=(wrap64 (x1 + 1)) then (if (((rd_T57 x0 x5).f2) != ((Int.tmod (wrap64 ((wrap64 (x1 + 1)) + 1)) 3) == 0))=true then (some (-1)) else (if ((rd_T57 x0 x5).f3.f0)=(wrap64 ((wrap64 ((wrap64 (x1 + 1)) + 1)) + 1)) then (if ((rd_T57 x0 x5).f3.f1)=(wrap64 ((wrap64 ((wrap64 ((wrap64 (x1 + 1)) + 1)) + 1)) + 1)) then (if ((rd_T57 x0 x5).f3.f2)=(wrap64 ((wrap64 ((wrap64 ((wrap64 ((wrap64 (x1 + 1)) + 1)) + 1)) + 1)) + 1)) then (laws_heldKidS.l0 k x0 (wrap64 ((wrap64 ((wrap64 ((wrap64 ((wrap64 ((wrap64 (x1 + 1)) + 1)) + 1)) + 1)) + 1)) + 1)) (wrap64 (x5 + 1))) else (some (-1))) else (some (-1))) else (some (-1)))) else (some (-1))) else (some (-1))) else (none)) else (some x1)
def laws_heldKidS.f (k : Nat) (l0 : List (S57)) (a1 : Int) : Option (Int) := laws_heldKidS.l0 k l0 a1 0
set_option maxHeartbeats 8000000 in
set_option maxRecDepth 100000 in
theorem laws_heldKidS.calls (k : Nat) (A0 : Option Addr) (c0 : Nat) (l0 : List (S57)) (a1 r : Int) (w : World) (hr0 : Kd.C k57 w A0 l0.length l0) (hc0 : l0.length ≤ c0) (h : laws_heldKidS.f k l0 a1 = some r) :
  Calls Try.prog 47 #[Y A0 l0.length c0, I L a1] w fun e w' => e = .returned (I L r) ∧ Drawn0 w w' := by
 have HR0 := D hr0
 have HC0 := D hc0
 clear hr0 hc0
 have H : (laws_heldKidS.l0 k l0 a1 0) = some r := h
 clear h
 have H' := D H
 clear H
 go_enter Try.func47, Try.ntmps47
 go_wp2
 go_loopg [1, 5] k (fun kq v1 v5 w' => ∃ (x1_1 : Int) (x5_1 : Int), v1 = I L x1_1 ∧ v5 = I L x5_1 ∧ Aside0 (laws_heldKidS.l0 kq l0 x1_1 x5_1 = some r) ∧ Aside0 (kq ≤ k) ∧ Drawn0 w w')
 case atStart => exact ⟨(a1), (0), Z44, Z44, H', ⟨Nat.le_refl _⟩, by repeat (first | exact Drawn0.refl _ | apply Drawn0.step)⟩
 case round =>
  clear H'
  try clear p2
  obtain ⟨x1_1, x5_1, rfl, rfl, HA, HK1, ⟨m1, rfl⟩⟩ := hrel
  cases gk with
  | zero => exact absurd HA.out (by simp [laws_heldKidS.l0])
  | succ k1 =>
   have H := HA.out; clear HA; simp only [laws_heldKidS.l0] at H
   by_cases c3 : x5_1 < (l0.length : Int)
   ·rw [if_pos c3] at H
    have c3b0 : decide (x5_1 < (l0.length : Int)) = true := decide_eq_true c3; clear c3
    by_cases c4 : 0 ≤ x5_1
    ·rw [if_pos c4] at H
     have c4b0:decide (0≤x5_1)=true:=decide_eq_true c4;clear c4;have HU5:=D H;clear H;have p449:0≤(x5_1:Int):=od_ Z43;have q449:x5_1 < (l0.length:Int):=od_ Z43;obtain ⟨ad449,e449,hx449_0,hx449_1,hx449_2,hx449_3,hx449_4,hx449_5⟩:=at_T57 HR0.out x5_1 p449 q449;cases e449;replace p449:=eq_true p449;replace q449:=eq_true q449
     go_upto_if 18 with (fail)
     have H := HU5.out; clear HU5
     by_cases c6 : ((rd_T57 l0 x5_1).f0) = x1_1
     ·rw [if_pos c6] at H
      have c6b0:(((rd_T57 l0 x5_1).f0) == x1_1)=true:=beq_iff_eq.mpr c6;have c6b1:(((rd_T57 l0 x5_1).f0) != x1_1)=false:=bne_eq_false_iff_eq.mpr c6;clear c6;refine rw_ c6b0 ?_;have HU7:=D H;clear H;have p450:0≤(x5_1:Int):=od_ Z43;have q450:x5_1 < (l0.length:Int):=od_ Z43;obtain ⟨ad450,e450,hx450_0,hx450_1,hx450_2,hx450_3,hx450_4,hx450_5⟩:=at_T57 HR0.out x5_1 p450 q450;obtain rfl:ad449=ad450:=(by injection e450);replace p450:=eq_true p450;replace q450:=eq_true q450
      go_upto_if 27 with (fail)
      have H := HU7.out; clear HU7
      by_cases c8 : ((rd_T57 l0 x5_1).f1) = (wrap64 (x1_1 + 1))
      ·rw [if_pos c8] at H
       have c8b0:(((rd_T57 l0 x5_1).f1) == (wrap64 (x1_1 + 1)))=true:=beq_iff_eq.mpr c8;have c8b1:(((rd_T57 l0 x5_1).f1) != (wrap64 (x1_1 + 1)))=false:=bne_eq_false_iff_eq.mpr c8;clear c8;refine rw_ c8b0 ?_;have HU9:=D H;clear H;have p451:0≤(x5_1:Int):=od_ Z43;have q451:x5_1 < (l0.length:Int):=od_ Z43;obtain ⟨ad451,e451,hx451_0,hx451_1,hx451_2,hx451_3,hx451_4,hx451_5⟩:=at_T57 HR0.out x5_1 p451 q451;obtain rfl:ad449=ad451:=(by injection e451);replace p451:=eq_true p451;replace q451:=eq_true q451
       go_upto_if 38 with (fail)
       have H := HU9.out; clear HU9
       by_cases c10 : (((rd_T57 l0 x5_1).f2) != ((Int.tmod (wrap64 ((wrap64 (x1_1 + 1)) + 1)) 3) == 0)) = true
       ·rw [if_pos c10] at H
        have c10b0:(((rd_T57 l0 x5_1).f2) != ((Int.tmod (wrap64 ((wrap64 (x1_1 + 1)) + 1)) 3) == 0))=true:=c10;(try (have c10b1:decide (((rd_T57 l0 x5_1).f2)=((Int.tmod (wrap64 ((wrap64 (x1_1 + 1)) + 1)) 3) == 0))=false:=by simpa using c10));(try (have c10b2:(((rd_T57 l0 x5_1).f2) == ((Int.tmod (wrap64 ((wrap64 (x1_1 + 1)) + 1)) 3) == 0))=false:=by simpa using c10));(try (have c10b3:¬ (((rd_T57 l0 x5_1).f2)=((Int.tmod (wrap64 ((wrap64 (x1_1 + 1)) + 1)) 3) == 0)):=by simpa using c10));clear c10;refine rw_ c10b0 ?_;obtain rfl:=Option.some.inj H
        go_wp2
        go_ret; exact ⟨by first | rfl | (simp; done) | (simp [*]; done), by repeat (first | exact Drawn0.refl _ | apply Drawn0.step)⟩
       ·rw [if_neg c10] at H
        have c10b0 : (((rd_T57 l0 x5_1).f2) != ((Int.tmod (wrap64 ((wrap64 (x1_1 + 1)) + 1)) 3) == 0)) = false := by simpa using c10
        (try (have c10b1:decide (((rd_T57 l0 x5_1).f2)=((Int.tmod (wrap64 ((wrap64 (x1_1 + 1)) + 1)) 3) == 0))=true:=by simpa using c10));(try (have c10b2:(((rd_T57 l0 x5_1).f2) == ((Int.tmod (wrap64 ((wrap64 (x1_1 + 1)) + 1)) 3) == 0))=true:=by simpa using c10));clear c10;refine rw_ c10b0 ?_;have HU11:=D H;clear H;have p452:0≤(x5_1:Int):=od_ Z43;have q452:x5_1 < (l0.length:Int):=od_ Z43;obtain ⟨ad452,e452,hx452_0,hx452_1,hx452_2,hx452_3,hx452_4,hx452_5⟩:=at_T57 HR0.out x5_1 p452 q452;obtain rfl:ad449=ad452:=(by injection e452);replace p452:=eq_true p452;replace q452:=eq_true q452
        go_upto_if 48 with (fail)
        have H := HU11.out; clear HU11
        by_cases c12 : ((rd_T57 l0 x5_1).f3.f0) = (wrap64 ((wrap64 ((wrap64 (x1_1 + 1)) + 1)) + 1))
        ·rw [if_pos c12] at H
         have c12b0:(((rd_T57 l0 x5_1).f3.f0) == (wrap64 ((wrap64 ((wrap64 (x1_1 + 1)) + 1)) + 1)))=true:=beq_iff_eq.mpr c12;have c12b1:(((rd_T57 l0 x5_1).f3.f0) != (wrap64 ((wrap64 ((wrap64 (x1_1 + 1)) + 1)) + 1)))=false:=bne_eq_false_iff_eq.mpr c12;clear c12;refine rw_ c12b0 ?_;have HU13:=D H;clear H;have p453:0≤(x5_1:Int):=od_ Z43;have q453:x5_1 < (l0.length:Int):=od_ Z43;obtain ⟨ad453,e453,hx453_0,hx453_1,hx453_2,hx453_3,hx453_4,hx453_5⟩:=at_T57 HR0.out x5_1 p453 q453;obtain rfl:ad449=ad453:=(by injection e453);replace p453:=eq_true p453;replace q453:=eq_true q453
         go_upto_if 58 with (fail)
         have H := HU13.out; clear HU13
         by_cases c14 : ((rd_T57 l0 x5_1).f3.f1) = (wrap64 ((wrap64 ((wrap64 ((wrap64 (x1_1 + 1)) + 1)) + 1)) + 1))
         ·rw [if_pos c14] at H
          have c14b0:(((rd_T57 l0 x5_1).f3.f1) == (wrap64 ((wrap64 ((wrap64 ((wrap64 (x1_1 + 1)) + 1)) + 1)) + 1)))=true:=beq_iff_eq.mpr c14;have c14b1:(((rd_T57 l0 x5_1).f3.f1) != (wrap64 ((wrap64 ((wrap64 ((wrap64 (x1_1 + 1)) + 1)) + 1)) + 1)))=false:=bne_eq_false_iff_eq.mpr c14;clear c14;refine rw_ c14b0 ?_;have HU15:=D H;clear H;have p454:0≤(x5_1:Int):=od_ Z43;have q454:x5_1 < (l0.length:Int):=od_ Z43;obtain ⟨ad454,e454,hx454_0,hx454_1,hx454_2,hx454_3,hx454_4,hx454_5⟩:=at_T57 HR0.out x5_1 p454 q454;obtain rfl:ad449=ad454:=(by injection e454);replace p454:=eq_true p454;replace q454:=eq_true q454
          go_upto_if 68 with (fail)
          have H := HU15.out; clear HU15
          by_cases c16 : ((rd_T57 l0 x5_1).f3.f2) = (wrap64 ((wrap64 ((wrap64 ((wrap64 ((wrap64 (x1_1 + 1)) + 1)) + 1)) + 1)) + 1))
          ·rw [if_pos c16] at H
           have c16b0:(((rd_T57 l0 x5_1).f3.f2) == (wrap64 ((wrap64 ((wrap64 ((wrap64 ((wrap64 (x1_1 + 1)) + 1)) + 1)) + 1)) + 1)))=true:=beq_iff_eq.mpr c16;have c16b1:(((rd_T57 l0 x5_1).f3.f2) != (wrap64 ((wrap64 ((wrap64 ((wrap64 ((wrap64 (x1_1 + 1)) + 1)) + 1)) + 1)) + 1)))=false:=bne_eq_false_iff_eq.mpr c16;clear c16;refine rw_ c16b0 ?_;have H':=D H;clear H
           go_wp2
           go_roundg k1
           case measure => have := HK1.out; omega
           case rel=>exact ⟨(wrap64 ((wrap64 ((wrap64 ((wrap64 ((wrap64 ((wrap64 (x1_1 + 1)) + 1)) + 1)) + 1)) + 1)) + 1)),(wrap64 (x5_1 + 1)),Z44,Z44,H',⟨by have:=HK1.out;omega⟩,by repeat (first|exact Drawn0.refl _|apply Drawn0.step)⟩
          ·rw [if_neg c16] at H
           have c16b0:(((rd_T57 l0 x5_1).f3.f2) == (wrap64 ((wrap64 ((wrap64 ((wrap64 ((wrap64 (x1_1 + 1)) + 1)) + 1)) + 1)) + 1)))=false:=beq_eq_false_iff_ne.mpr c16;have c16b1:(((rd_T57 l0 x5_1).f3.f2) != (wrap64 ((wrap64 ((wrap64 ((wrap64 ((wrap64 (x1_1 + 1)) + 1)) + 1)) + 1)) + 1)))=true:=bne_iff_ne.mpr c16;refine rw_ c16b0 ?_;obtain rfl:=Option.some.inj H
           go_wp2
           go_ret; exact ⟨by first | rfl | (simp; done) | (simp [*]; done), by repeat (first | exact Drawn0.refl _ | apply Drawn0.step)⟩
         ·rw [if_neg c14] at H
          have c14b0:(((rd_T57 l0 x5_1).f3.f1) == (wrap64 ((wrap64 ((wrap64 ((wrap64 (x1_1 + 1)) + 1)) + 1)) + 1)))=false:=beq_eq_false_iff_ne.mpr c14;have c14b1:(((rd_T57 l0 x5_1).f3.f1) != (wrap64 ((wrap64 ((wrap64 ((wrap64 (x1_1 + 1)) + 1)) + 1)) + 1)))=true:=bne_iff_ne.mpr c14;refine rw_ c14b0 ?_;obtain rfl:=Option.some.inj H
          go_wp2
          go_ret; exact ⟨by first | rfl | (simp; done) | (simp [*]; done), by repeat (first | exact Drawn0.refl _ | apply Drawn0.step)⟩
        ·rw [if_neg c12] at H
         have c12b0:(((rd_T57 l0 x5_1).f3.f0) == (wrap64 ((wrap64 ((wrap64 (x1_1 + 1)) + 1)) + 1)))=false:=beq_eq_false_iff_ne.mpr c12;have c12b1:(((rd_T57 l0 x5_1).f3.f0) != (wrap64 ((wrap64 ((wrap64 (x1_1 + 1)) + 1)) + 1)))=true:=bne_iff_ne.mpr c12;refine rw_ c12b0 ?_;obtain rfl:=Option.some.inj H
         go_wp2
         go_ret; exact ⟨by first | rfl | (simp; done) | (simp [*]; done), by repeat (first | exact Drawn0.refl _ | apply Drawn0.step)⟩
      ·rw [if_neg c8] at H
       have c8b0:(((rd_T57 l0 x5_1).f1) == (wrap64 (x1_1 + 1)))=false:=beq_eq_false_iff_ne.mpr c8;have c8b1:(((rd_T57 l0 x5_1).f1) != (wrap64 (x1_1 + 1)))=true:=bne_iff_ne.mpr c8;refine rw_ c8b0 ?_;obtain rfl:=Option.some.inj H
       go_wp2
       go_ret; exact ⟨by first | rfl | (simp; done) | (simp [*]; done), by repeat (first | exact Drawn0.refl _ | apply Drawn0.step)⟩
     ·rw [if_neg c6] at H
      have c6b0:(((rd_T57 l0 x5_1).f0) == x1_1)=false:=beq_eq_false_iff_ne.mpr c6;have c6b1:(((rd_T57 l0 x5_1).f0) != x1_1)=true:=bne_iff_ne.mpr c6;refine rw_ c6b0 ?_;obtain rfl:=Option.some.inj H
      go_wp2
      go_ret; exact ⟨by first | rfl | (simp; done) | (simp [*]; done), by repeat (first | exact Drawn0.refl _ | apply Drawn0.step)⟩
    ·rw [if_neg c4] at H
     exact absurd H (by simp)
   ·rw [if_neg c3] at H
    have c3b0 : decide (x5_1 < (l0.length : Int)) = false := decide_eq_false c3; clear c3; obtain rfl := Option.some.inj H
    go_wp2
    go_ret; exact ⟨by first | rfl | (simp; done) | (simp [*]; done), by repeat (first | exact Drawn0.refl _ | apply Drawn0.step)⟩

/-! ### laws_heldFair: function 28 -/
def laws_heldFair.f (k : Nat) (a0_0 a0_1 a0_2 a0_3 : Int) (l0_4 : List (S57)) (a1 : Int) : Option (Int) := (laws_heldKidS.f k l0_4 a1).bind fun t456 => (if t456 < 0 then (some (-1)) else (some t456))
set_option maxHeartbeats 8000000 in
set_option maxRecDepth 100000 in
theorem laws_heldFair.calls (k : Nat) (a0_0 a0_1 a0_2 a0_3 : Int) (A0_4 : Option Addr) (c0_4 : Nat) (l0_4 : List (S57)) (a1 r : Int) (w : World) (hr0_4 : Kd.C k57 w A0_4 l0_4.length l0_4) (hc0_4 : l0_4.length ≤ c0_4) (h : laws_heldFair.f k a0_0 a0_1 a0_2 a0_3 l0_4 a1 = some r) :
  Calls Try.prog 28 #[.agg #[I L a0_0,I L a0_1,I L a0_2,I L a0_3,Y A0_4 l0_4.length c0_4],I L a1] w fun e w'=>e=.returned (I L r)∧Below w.heap.size w w':=by
 have hu34 := Try.underlying34
 have HR0_4 := D hr0_4
 have HC0_4 := D hc0_4
 clear hr0_4 hc0_4
 have HB := D (Below.refl w.heap.size w)
 have H : ((laws_heldKidS.f k l0_4 a1).bind fun t456 => (if t456 < 0 then (some (-1)) else (some t456))) = some r := h
 clear h
 obtain ⟨t456, A30, H⟩ := bs_.mp H
 (try dsimp only at H)
 have A3 := D A30
 clear A30
 have HU4 := D H
 clear H
 go_enter Try.func28, Try.ntmps28
 go_upto_if 10 with (first|((with_reducible refine gate_dst (N:=2) rfl ?_);refine bx_ (N:=2) (cs:=#[I L a0_0,I L a0_1,I L a0_2,I L a0_3,Y A0_4 l0_4.length c0_4]) (t:=34) ?_;intro gb455 hg w5 hbox hb;have n_:=an_ (below_step (pB_ HB.out) hb)<|an_ (hbox)<|an_ (bg_ hg (pB_ HB.out):w.heap.size≤gb455)<|D (bg_ hg (pB_ HB.out):w.heap.size≤gb455);clear HB;obtain ⟨HB,BK455,GW455,GE455⟩:=n_;clear hb hbox hg;have hcz6_0:=cells5 BK455.out)|((with_reducible refine gate_callee (f:=47) rfl ?_);refine goesL_ (some 8) rfl rfl Try.func47 (by kernel_rfl) rfl #[Y A0_4 l0_4.length c0_4,I L a1] rfl Z12 ?_;(with_reducible refine (laws_heldKidS.calls k _ _ l0_4 a1 t456 _ ?side1 ?side2 A3.out).mono ?_);(case side1=>exact pC_ (Kd.C_below HR0_4.out HB.out));(case side2=>exact HC0_4.out);rintro e w' ⟨rfl,⟨nd,rfl⟩⟩;refine ⟨_,rfl,?_⟩))
 have H := HU4.out
 clear HU4
 by_cases c7 : t456 < 0
 ·rw [if_pos c7] at H
  have c7b0:decide (t456 < 0)=true:=decide_eq_true c7;clear c7;refine rw_ c7b0 ?_;obtain rfl:=Option.some.inj H
  go_wp2
  go_ret; exact ⟨er_, pB_ HB.out⟩
 ·rw [if_neg c7] at H
  have c7b0:decide (t456 < 0)=false:=decide_eq_false c7;clear c7;refine rw_ c7b0 ?_;obtain rfl:=Option.some.inj H
  go_wp2
  go_ret; exact ⟨er_, pB_ HB.out⟩

/-! ### laws_heldBranchS: function 29 -/
def laws_heldBranchS.l0 : Nat → List (S50) → Int → Int → Option (Int)
 | 0, _, _, _ => none
 | k + 1,x0,x1,x5=>if x5 < (x0.length:Int) then (if 0≤x5 then (if ((rd_T50 x0 x5).f0)=x1 then (if ((rd_T50 x0 x5).f1.f0)=(wrap64 (x1 + 1)) then (if ((rd_T50 x0 x5).f1.f1.f0)=(wrap64 ((wrap64 (x1 + 1)) + 1)) then (if ((rd_T50 x0 x5).f1.f1.f1)=(wrap64 ((wrap64 ((wrap64 (x1 + 1)) + 1)) + 1)) then (if ((rd_T50 x0 x5).f1.f1.f2)=(wrap64 ((wrap64 ((wrap64 ((wrap64 (x1 + 1)) + 1)) + 1)) + 1)) then ((laws_heldKidS.f k ((rd_T50 x0 x5).f1.f2) (wrap64 ((wrap64 ((wrap64 ((wrap64 ((wrap64 (x1 + 1)) + 1)) + 1)) + 1)) + 1))).bind fun t463=>(if t463 < 0 then (some (-1)) else (laws_heldBranchS.l0 k x0 t463 (wrap64 (x5 + 1))))) else (some (-1))) else (some (-1))) else (some (-1))) else (some (-1))) else (some (-1))) else (none)) else (some x1)
def laws_heldBranchS.f (k : Nat) (l0 : List (S50)) (a1 : Int) : Option (Int) := laws_heldBranchS.l0 k l0 a1 0
set_option maxHeartbeats 8000000 in
set_option maxRecDepth 100000 in
theorem laws_heldBranchS.calls (k : Nat) (A0 : Option Addr) (c0 : Nat) (l0 : List (S50)) (a1 r : Int) (w : World) (hr0 : Kd.C k50 w A0 l0.length l0) (hc0 : l0.length ≤ c0) (h : laws_heldBranchS.f k l0 a1 = some r) :
  Calls Try.prog 29 #[Y A0 l0.length c0, I L a1] w fun e w' => e = .returned (I L r) ∧ Drawn0 w w' := by
 have HR0 := D hr0
 have HC0 := D hc0
 clear hr0 hc0
 have H : (laws_heldBranchS.l0 k l0 a1 0) = some r := h
 clear h
 have H' := D H
 clear H
 go_enter Try.func29, Try.ntmps29
 go_wp2
 go_loopg [1, 5] k (fun kq v1 v5 w' => ∃ (x1_1 : Int) (x5_1 : Int), v1 = I L x1_1 ∧ v5 = I L x5_1 ∧ Aside0 (laws_heldBranchS.l0 kq l0 x1_1 x5_1 = some r) ∧ Aside0 (kq ≤ k) ∧ Drawn0 w w')
 case atStart => exact ⟨(a1), (0), Z44, Z44, H', ⟨Nat.le_refl _⟩, by repeat (first | exact Drawn0.refl _ | apply Drawn0.step)⟩
 case round =>
  clear H'
  (try clear c2);(try clear p2)
  obtain ⟨x1_1, x5_1, rfl, rfl, HA, HK1, ⟨m1, rfl⟩⟩ := hrel
  cases gk with
  | zero => exact absurd HA.out (by simp [laws_heldBranchS.l0])
  | succ k1 =>
   have H := HA.out; clear HA; simp only [laws_heldBranchS.l0] at H
   by_cases c3 : x5_1 < (l0.length : Int)
   ·rw [if_pos c3] at H
    have c3b0 : decide (x5_1 < (l0.length : Int)) = true := decide_eq_true c3; clear c3
    by_cases c4 : 0 ≤ x5_1
    ·rw [if_pos c4] at H
     have c4b0:decide (0≤x5_1)=true:=decide_eq_true c4;clear c4;have HU5:=D H;clear H;have p457:0≤(x5_1:Int):=od_ Z43;have q457:x5_1 < (l0.length:Int):=od_ Z43;obtain ⟨ad457,A457_5,c457_5,e457,hx457_0,hx457_1,hx457_2,hx457_3,hx457_4,hx457_5,hl457_5,hi457_5⟩:=at_T50 HR0.out x5_1 p457 q457;cases e457;have HR457_5:=D hi457_5;have HC457_5:=D hl457_5;clear hi457_5 hl457_5;replace p457:=eq_true p457;replace q457:=eq_true q457
     go_upto_if 18 with (fail)
     have H := HU5.out; clear HU5
     by_cases c6 : ((rd_T50 l0 x5_1).f0) = x1_1
     ·rw [if_pos c6] at H
      have c6b0:(((rd_T50 l0 x5_1).f0) == x1_1)=true:=beq_iff_eq.mpr c6;have c6b1:(((rd_T50 l0 x5_1).f0) != x1_1)=false:=bne_eq_false_iff_eq.mpr c6;clear c6;refine rw_ c6b0 ?_;have HU7:=D H;clear H;have p458:0≤(x5_1:Int):=od_ Z43;have q458:x5_1 < (l0.length:Int):=od_ Z43;obtain ⟨ad458,A458_5,c458_5,e458,hx458_0,hx458_1,hx458_2,hx458_3,hx458_4,hx458_5,hl458_5,hi458_5⟩:=at_T50 HR0.out x5_1 p458 q458;obtain rfl:ad457=ad458:=(by injection e458);have HR458_5:=D hi458_5;have HC458_5:=D hl458_5;clear hi458_5 hl458_5;replace p458:=eq_true p458;replace q458:=eq_true q458;have ea_:=Option.some.inj (hx457_5.symm.trans hx458_5)
      injection ea_ with ea_ en_ ec_
      subst ea_; subst ec_; clear en_
      go_upto_if 28 with (fail)
      have H := HU7.out; clear HU7
      by_cases c8 : ((rd_T50 l0 x5_1).f1.f0) = (wrap64 (x1_1 + 1))
      ·rw [if_pos c8] at H
       have c8b0:(((rd_T50 l0 x5_1).f1.f0) == (wrap64 (x1_1 + 1)))=true:=beq_iff_eq.mpr c8;have c8b1:(((rd_T50 l0 x5_1).f1.f0) != (wrap64 (x1_1 + 1)))=false:=bne_eq_false_iff_eq.mpr c8;clear c8;refine rw_ c8b0 ?_;have HU9:=D H;clear H;have p459:0≤(x5_1:Int):=od_ Z43;have q459:x5_1 < (l0.length:Int):=od_ Z43;obtain ⟨ad459,A459_5,c459_5,e459,hx459_0,hx459_1,hx459_2,hx459_3,hx459_4,hx459_5,hl459_5,hi459_5⟩:=at_T50 HR0.out x5_1 p459 q459;obtain rfl:ad457=ad459:=(by injection e459);have HR459_5:=D hi459_5;have HC459_5:=D hl459_5;clear hi459_5 hl459_5;replace p459:=eq_true p459;replace q459:=eq_true q459;have ea_:=Option.some.inj (hx457_5.symm.trans hx459_5)
       injection ea_ with ea_ en_ ec_
       subst ea_; subst ec_; clear en_
       go_upto_if 39 with (fail)
       have H := HU9.out; clear HU9
       by_cases c10 : ((rd_T50 l0 x5_1).f1.f1.f0) = (wrap64 ((wrap64 (x1_1 + 1)) + 1))
       ·rw [if_pos c10] at H
        have c10b0:(((rd_T50 l0 x5_1).f1.f1.f0) == (wrap64 ((wrap64 (x1_1 + 1)) + 1)))=true:=beq_iff_eq.mpr c10;have c10b1:(((rd_T50 l0 x5_1).f1.f1.f0) != (wrap64 ((wrap64 (x1_1 + 1)) + 1)))=false:=bne_eq_false_iff_eq.mpr c10;clear c10;refine rw_ c10b0 ?_;have HU11:=D H;clear H;have p460:0≤(x5_1:Int):=od_ Z43;have q460:x5_1 < (l0.length:Int):=od_ Z43;obtain ⟨ad460,A460_5,c460_5,e460,hx460_0,hx460_1,hx460_2,hx460_3,hx460_4,hx460_5,hl460_5,hi460_5⟩:=at_T50 HR0.out x5_1 p460 q460;obtain rfl:ad457=ad460:=(by injection e460);have HR460_5:=D hi460_5;have HC460_5:=D hl460_5;clear hi460_5 hl460_5;replace p460:=eq_true p460;replace q460:=eq_true q460;have ea_:=Option.some.inj (hx457_5.symm.trans hx460_5)
        injection ea_ with ea_ en_ ec_
        subst ea_; subst ec_; clear en_
        go_upto_if 50 with (fail)
        have H := HU11.out; clear HU11
        by_cases c12 : ((rd_T50 l0 x5_1).f1.f1.f1) = (wrap64 ((wrap64 ((wrap64 (x1_1 + 1)) + 1)) + 1))
        ·rw [if_pos c12] at H
         have c12b0:(((rd_T50 l0 x5_1).f1.f1.f1) == (wrap64 ((wrap64 ((wrap64 (x1_1 + 1)) + 1)) + 1)))=true:=beq_iff_eq.mpr c12;have c12b1:(((rd_T50 l0 x5_1).f1.f1.f1) != (wrap64 ((wrap64 ((wrap64 (x1_1 + 1)) + 1)) + 1)))=false:=bne_eq_false_iff_eq.mpr c12;clear c12;refine rw_ c12b0 ?_;have HU13:=D H;clear H;have p461:0≤(x5_1:Int):=od_ Z43;have q461:x5_1 < (l0.length:Int):=od_ Z43;obtain ⟨ad461,A461_5,c461_5,e461,hx461_0,hx461_1,hx461_2,hx461_3,hx461_4,hx461_5,hl461_5,hi461_5⟩:=at_T50 HR0.out x5_1 p461 q461;obtain rfl:ad457=ad461:=(by injection e461);have HR461_5:=D hi461_5;have HC461_5:=D hl461_5;clear hi461_5 hl461_5;replace p461:=eq_true p461;replace q461:=eq_true q461;have ea_:=Option.some.inj (hx457_5.symm.trans hx461_5)
         injection ea_ with ea_ en_ ec_
         subst ea_; subst ec_; clear en_
         go_upto_if 61 with (fail)
         have H := HU13.out; clear HU13
         by_cases c14 : ((rd_T50 l0 x5_1).f1.f1.f2) = (wrap64 ((wrap64 ((wrap64 ((wrap64 (x1_1 + 1)) + 1)) + 1)) + 1))
         ·rw [if_pos c14] at H
          have c14b0:(((rd_T50 l0 x5_1).f1.f1.f2) == (wrap64 ((wrap64 ((wrap64 ((wrap64 (x1_1 + 1)) + 1)) + 1)) + 1)))=true:=beq_iff_eq.mpr c14;have c14b1:(((rd_T50 l0 x5_1).f1.f1.f2) != (wrap64 ((wrap64 ((wrap64 ((wrap64 (x1_1 + 1)) + 1)) + 1)) + 1)))=false:=bne_eq_false_iff_eq.mpr c14;clear c14;refine rw_ c14b0 ?_;obtain ⟨t463,A150,H⟩:=bs_.mp H;(try dsimp only at H);have A15:=D A150;clear A150;have HU16:=D H;clear H;have p462:0≤(x5_1:Int):=od_ Z43;have q462:x5_1 < (l0.length:Int):=od_ Z43;obtain ⟨ad462,A462_5,c462_5,e462,hx462_0,hx462_1,hx462_2,hx462_3,hx462_4,hx462_5,hl462_5,hi462_5⟩:=at_T50 HR0.out x5_1 p462 q462;obtain rfl:ad457=ad462:=(by injection e462);have HR462_5:=D hi462_5;have HC462_5:=D hl462_5;clear hi462_5 hl462_5;replace p462:=eq_true p462;replace q462:=eq_true q462;have ea_:=Option.some.inj (hx457_5.symm.trans hx462_5)
          injection ea_ with ea_ en_ ec_
          subst ea_; subst ec_; clear en_
          go_upto_if 73 with (first|((with_reducible refine gate_callee (f:=47) rfl ?_);refine goesL_ (some 71) rfl rfl Try.func47 (by kernel_rfl) rfl #[Y A457_5 ((rd_T50 l0 x5_1).f1.f2).length c457_5,I L (wrap64 ((wrap64 ((wrap64 ((wrap64 ((wrap64 (x1_1 + 1)) + 1)) + 1)) + 1)) + 1))] rfl Z12 ?_;(with_reducible refine (laws_heldKidS.calls k1 _ _ ((rd_T50 l0 x5_1).f1.f2) (wrap64 ((wrap64 ((wrap64 ((wrap64 ((wrap64 (x1_1 + 1)) + 1)) + 1)) + 1)) + 1)) t463 _ ?side1 ?side2 A15.out).mono ?_);(case side1=>exact pC_ HR462_5.out);(case side2=>exact HC462_5.out);rintro e w' ⟨rfl,⟨nd,rfl⟩⟩;refine ⟨_,rfl,?_⟩))
          have H := HU16.out; clear HU16
          by_cases c17 : t463 < 0
          ·rw [if_pos c17] at H
           have c17b0:decide (t463 < 0)=true:=decide_eq_true c17;clear c17;refine rw_ c17b0 ?_;obtain rfl:=Option.some.inj H
           go_wp2
           go_ret; exact ⟨by first | rfl | (simp; done) | (simp [*]; done), by repeat (first | exact Drawn0.refl _ | apply Drawn0.step)⟩
          ·rw [if_neg c17] at H
           have c17b0:decide (t463 < 0)=false:=decide_eq_false c17;clear c17;refine rw_ c17b0 ?_;have H':=D H;clear H
           go_wp2
           go_roundg k1
           case measure => have := HK1.out; omega
           case rel => exact ⟨(t463), (wrap64 (x5_1 + 1)), Z44, Z44, H', ⟨by have := HK1.out; omega⟩, by repeat (first | exact Drawn0.refl _ | apply Drawn0.step)⟩
         ·rw [if_neg c14] at H
          have c14b0:(((rd_T50 l0 x5_1).f1.f1.f2) == (wrap64 ((wrap64 ((wrap64 ((wrap64 (x1_1 + 1)) + 1)) + 1)) + 1)))=false:=beq_eq_false_iff_ne.mpr c14;have c14b1:(((rd_T50 l0 x5_1).f1.f1.f2) != (wrap64 ((wrap64 ((wrap64 ((wrap64 (x1_1 + 1)) + 1)) + 1)) + 1)))=true:=bne_iff_ne.mpr c14;refine rw_ c14b0 ?_;obtain rfl:=Option.some.inj H
          go_wp2
          go_ret; exact ⟨by first | rfl | (simp; done) | (simp [*]; done), by repeat (first | exact Drawn0.refl _ | apply Drawn0.step)⟩
        ·rw [if_neg c12] at H
         have c12b0:(((rd_T50 l0 x5_1).f1.f1.f1) == (wrap64 ((wrap64 ((wrap64 (x1_1 + 1)) + 1)) + 1)))=false:=beq_eq_false_iff_ne.mpr c12;have c12b1:(((rd_T50 l0 x5_1).f1.f1.f1) != (wrap64 ((wrap64 ((wrap64 (x1_1 + 1)) + 1)) + 1)))=true:=bne_iff_ne.mpr c12;refine rw_ c12b0 ?_;obtain rfl:=Option.some.inj H
         go_wp2
         go_ret; exact ⟨by first | rfl | (simp; done) | (simp [*]; done), by repeat (first | exact Drawn0.refl _ | apply Drawn0.step)⟩
       ·rw [if_neg c10] at H
        have c10b0:(((rd_T50 l0 x5_1).f1.f1.f0) == (wrap64 ((wrap64 (x1_1 + 1)) + 1)))=false:=beq_eq_false_iff_ne.mpr c10;have c10b1:(((rd_T50 l0 x5_1).f1.f1.f0) != (wrap64 ((wrap64 (x1_1 + 1)) + 1)))=true:=bne_iff_ne.mpr c10;refine rw_ c10b0 ?_;obtain rfl:=Option.some.inj H
        go_wp2
        go_ret; exact ⟨by first | rfl | (simp; done) | (simp [*]; done), by repeat (first | exact Drawn0.refl _ | apply Drawn0.step)⟩
      ·rw [if_neg c8] at H
       have c8b0:(((rd_T50 l0 x5_1).f1.f0) == (wrap64 (x1_1 + 1)))=false:=beq_eq_false_iff_ne.mpr c8;have c8b1:(((rd_T50 l0 x5_1).f1.f0) != (wrap64 (x1_1 + 1)))=true:=bne_iff_ne.mpr c8;refine rw_ c8b0 ?_;obtain rfl:=Option.some.inj H
       go_wp2
       go_ret; exact ⟨by first | rfl | (simp; done) | (simp [*]; done), by repeat (first | exact Drawn0.refl _ | apply Drawn0.step)⟩
     ·rw [if_neg c6] at H
      have c6b0:(((rd_T50 l0 x5_1).f0) == x1_1)=false:=beq_eq_false_iff_ne.mpr c6;have c6b1:(((rd_T50 l0 x5_1).f0) != x1_1)=true:=bne_iff_ne.mpr c6;refine rw_ c6b0 ?_;obtain rfl:=Option.some.inj H
      go_wp2
      go_ret; exact ⟨by first | rfl | (simp; done) | (simp [*]; done), by repeat (first | exact Drawn0.refl _ | apply Drawn0.step)⟩
    ·rw [if_neg c4] at H
     exact absurd H (by simp)
   ·rw [if_neg c3] at H
    have c3b0 : decide (x5_1 < (l0.length : Int)) = false := decide_eq_false c3; clear c3; obtain rfl := Option.some.inj H
    go_wp2
    go_ret; exact ⟨by first | rfl | (simp; done) | (simp [*]; done), by repeat (first | exact Drawn0.refl _ | apply Drawn0.step)⟩

/-! ### laws_heldTree: function 10 -/
def laws_heldTree.f (k : Nat) (a0_0 a0_1 a0_2 a0_3 : Int) (l0_4 : List (S57)) (l0_5 : List (S50)) (a1 : Int) : Option (Int) := (laws_heldFair.f k a0_0 a0_1 a0_2 a0_3 l0_4 a1).bind fun t465 => (if t465 < 0 then (some (-1)) else ((laws_heldBranchS.f k l0_5 t465).bind fun t466 => (if t466 < 0 then (some (-1)) else (some t466))))
set_option maxHeartbeats 8000000 in
set_option maxRecDepth 100000 in
theorem laws_heldTree.calls (k : Nat) (a0_0 a0_1 a0_2 a0_3 : Int) (A0_4 : Option Addr) (c0_4 : Nat) (l0_4 : List (S57)) (A0_5 : Option Addr) (c0_5 : Nat) (l0_5 : List (S50)) (a1 r : Int) (w : World) (hr0_4 : Kd.C k57 w A0_4 l0_4.length l0_4) (hc0_4 : l0_4.length ≤ c0_4) (hr0_5 : Kd.C k50 w A0_5 l0_5.length l0_5) (hc0_5 : l0_5.length ≤ c0_5) (h : laws_heldTree.f k a0_0 a0_1 a0_2 a0_3 l0_4 l0_5 a1 = some r) :
  Calls Try.prog 10 #[.agg #[I L a0_0,I L a0_1,I L a0_2,I L a0_3,Y A0_4 l0_4.length c0_4,Y A0_5 l0_5.length c0_5],I L a1] w fun e w'=>e=.returned (I L r)∧Below w.heap.size w w':=by
 have hu37 := Try.underlying37
 have hu34 := Try.underlying34
 have HR0_4 := D hr0_4
 have HC0_4 := D hc0_4
 clear hr0_4 hc0_4
 have HR0_5 := D hr0_5
 have HC0_5 := D hc0_5
 clear hr0_5 hc0_5
 have HB := D (Below.refl w.heap.size w)
 have H:((laws_heldFair.f k a0_0 a0_1 a0_2 a0_3 l0_4 a1).bind fun t465=>(if t465 < 0 then (some (-1)) else ((laws_heldBranchS.f k l0_5 t465).bind fun t466=>(if t466 < 0 then (some (-1)) else (some t466)))))=some r:=h
 clear h
 obtain ⟨t465, A30, H⟩ := bs_.mp H
 (try dsimp only at H)
 have A3 := D A30
 clear A30
 have HU4 := D H
 clear H
 go_enter Try.func10, Try.ntmps10
 go_upto_if 10 with (first|((with_reducible refine gate_dst (N:=2) rfl ?_);refine bx_ (N:=2) (cs:=#[I L a0_0,I L a0_1,I L a0_2,I L a0_3,Y A0_4 l0_4.length c0_4,Y A0_5 l0_5.length c0_5]) (t:=37) ?_;intro gb464 hg w5 hbox hb;have n_:=an_ (below_step (pB_ HB.out) hb)<|an_ (hbox)<|an_ (bg_ hg (pB_ HB.out):w.heap.size≤gb464)<|D (bg_ hg (pB_ HB.out):w.heap.size≤gb464);clear HB;obtain ⟨HB,BK464,GW464,GE464⟩:=n_;clear hb hbox hg;have hcz6_0:=cells6 BK464.out)|((with_reducible refine gate_callee (f:=28) rfl ?_);refine goesL_ (some 8) rfl rfl Try.func28 (by kernel_rfl) rfl #[.agg #[I L a0_0,I L a0_1,I L a0_2,I L a0_3,Y A0_4 l0_4.length c0_4],I L a1] rfl Z12 ?_;(with_reducible refine (laws_heldFair.calls k a0_0 a0_1 a0_2 a0_3 _ _ l0_4 a1 t465 _ ?side1 ?side2 A3.out).mono ?_);(case side1=>exact pC_ (Kd.C_below HR0_4.out HB.out));(case side2=>exact HC0_4.out);rintro e w7 ⟨rfl,hb⟩;refine ⟨_,rfl,?_⟩;have n_:=an_ (blk_below (pk_ BK464.out) hb)<|D (below_step (pB_ HB.out) hb);clear BK464 HB;obtain ⟨BK464,HB⟩:=n_;(try clear hb)))
 have H := HU4.out
 clear HU4
 by_cases c8 : t465 < 0
 ·rw [if_pos c8] at H
  have c8b0:decide (t465 < 0)=true:=decide_eq_true c8;clear c8;refine rw_ c8b0 ?_;obtain rfl:=Option.some.inj H
  go_wp2
  go_ret; exact ⟨er_, pB_ HB.out⟩
 ·rw [if_neg c8] at H
  have c8b0:decide (t465 < 0)=false:=decide_eq_false c8;clear c8;refine rw_ c8b0 ?_;obtain ⟨t466,A90,H⟩:=bs_.mp H;(try dsimp only at H);have A9:=D A90;clear A90;have HU10:=D H;clear H;have hcz11_0:=cells6 BK464.out
  go_upto_if 16 with (first|((with_reducible refine gate_callee (f:=29) rfl ?_);refine goesL_ (some 14) rfl rfl Try.func29 (by kernel_rfl) rfl #[Y A0_5 l0_5.length c0_5,I L t465] rfl Z12 ?_;(with_reducible refine (laws_heldBranchS.calls k _ _ l0_5 t465 t466 _ ?side1 ?side2 A9.out).mono ?_);(case side1=>exact pC_ (Kd.C_below HR0_5.out HB.out));(case side2=>exact HC0_5.out);rintro e w' ⟨rfl,⟨nd,rfl⟩⟩;refine ⟨_,rfl,?_⟩))
  have H := HU10.out; clear HU10
  by_cases c12 : t466 < 0
  ·rw [if_pos c12] at H
   have c12b0:decide (t466 < 0)=true:=decide_eq_true c12;clear c12;refine rw_ c12b0 ?_;obtain rfl:=Option.some.inj H
   go_wp2
   go_ret; exact ⟨er_, pB_ HB.out⟩
  ·rw [if_neg c12] at H
   have c12b0:decide (t466 < 0)=false:=decide_eq_false c12;clear c12;refine rw_ c12b0 ?_;obtain rfl:=Option.some.inj H
   go_wp2
   go_ret; exact ⟨er_, pB_ HB.out⟩

end Go.Proofs.Ytmloggnobgikdaa.PFnExactTreeCut
