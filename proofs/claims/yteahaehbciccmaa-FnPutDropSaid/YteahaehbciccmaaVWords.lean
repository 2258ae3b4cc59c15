/- Words of this session's: a call of a function value by what is told of it. No condition beyond those that stand in each line. -/
import Derived.Test.YteahaehbciccmaaWWords
import Derived.Test.YteahaehbciccmaaWLast
import Derived.Test.YteahaehbciccmaaWMore
import Derived.Test.YteahaehbciccmaaWApart
import Derived.Test.YteahaehbciccmaaWKept
import Derived.Test.YteahaehbciccmaaWTab
namespace Go.Proofs.YteahaehbciccmaaV
open Go.RowKit Go.Proofs.YteahaehbciccmaaW.PrintWords Go.Proofs.YteahaehbciccmaaW.PrintLast Go.Proofs.YteahaehbciccmaaW.PrintMore
def ar3 (a b c i:Int):Int:=if i=0 then a else if i=1 then b else c
theorem relet_ {C F:World→Prop} {W:World} (hF:F W) (h:∀ w',F w'→C w'):C W:=h W hF
def putN (w:World) (g o:Nat):List Value→World
  | []=>w
  | v :: vs=>putN (w.setCell ⟨g,o,none⟩ v) g (o+1) vs
theorem putN_ind {C:World→Prop} {g:Nat} (step:∀ w o v,C w→C (w.setCell ⟨g,o,none⟩ v)):∀ (vs:List Value) (w:World) (o:Nat),C w→C (putN w g o vs)
  | [],_,_,h=>h
  | v :: vs,w,o,h=>putN_ind step vs _ _ (step w o v h)
theorem csN_ {w:World} {a:Addr} {g o:Nat} {vs:List Value} {v:Value} (hp:a.block≠g) (h:w.cell? a=some v):(putN w g o vs).cell? a=some v:=putN_ind (C:=fun w=>w.cell? a=some v) (fun _ _ u h=>(cell_far (p:=⟨g,_,none⟩) hp u).trans h) vs w o h
theorem farN_ {w:World} {g g' o:Nat} {vs:List Value} {t:TypeId} {cs:Array Value} (hp:g≠g') (h:w.heap[g]?=some (.cells cs t (0,0))):(putN w g' o vs).heap[g]?=some (.cells cs t (0,0)):=putN_ind (C:=fun w=>w.heap[g]?=some (.cells cs t (0,0))) (fun _ _ u h=>qf_ h hp u) vs w o h
theorem putN_at {g:Nat} {t:TypeId}:∀ (vs pre cs:List Value) (w:World),cs.length=vs.length→w.heap[g]?=some (.cells (pre ++ cs).toArray t (0,0))→(putN w g pre.length vs).heap[g]?=some (.cells (pre ++ vs).toArray t (0,0))
  | [],pre,[],w,_,h=>h
  | v :: vs,pre,c :: cs,w,e,h=>by
    have h1:=blk_set h pre.length v
    have e1:(pre ++ c :: cs).toArray.setIfInBounds pre.length v=((pre ++ [v]) ++ cs).toArray:=by simp
    rw [e1] at h1
    have h2:=putN_at vs (pre ++ [v]) cs (w.setCell ⟨g,pre.length,none⟩ v) (by simpa using e) h1
    simp only [List.length_append,List.length_cons,List.length_nil,Nat.zero_add,List.append_assoc,List.cons_append,List.nil_append] at h2
    exact h2
theorem putN_all {w:World} {g:Nat} {t:TypeId} {cs:Array Value} {vs:List Value} (h:w.heap[g]?=some (.cells cs t (0,0))) (e:cs.size=vs.length:=by rfl):(putN w g 0 vs).heap[g]?=some (.cells vs.toArray t (0,0)):=by
  have:=putN_at vs [] cs.toList w (by simpa using e) (by simpa using h)
  simpa using this
theorem putN_allx {w:World} {g:Nat} {t:TypeId} {cs:Array Value} {vs:List Value} (h:w.heap[g]?=some (.cells cs t (0,0))) (e:cs.size=vs.length):(putN w g 0 vs).heap[g]?=some (.cells vs.toArray t (0,0)):=putN_all h e
theorem belowN_ {w W:World} {g o:Nat} {vs:List Value} (h:Below w.heap.size w W) (hg:w.heap.size≤g):Below w.heap.size w (putN W g o vs):=putN_ind (C:=fun W=>Below w.heap.size w W) (fun _ _ _ h=>qe_ h hg) vs W o h
theorem keepN_ {w W:World} {g b o:Nat} {row:Option Nat} {vs:List Value} (h:KeepBut w W g row) (hp:w.heap.size≤b):KeepBut w (putN W b o vs) g row:=putN_ind (C:=fun W=>KeepBut w W g row) (fun _ _ _ h=>qu_ (p:=⟨b,_,none⟩) h hp _) vs W o h
section
variable {α : Type} {d : Kd α} {e base g o : Nat} {ok : Nat → Prop} {v : Value} {xs : List α} {w : World} {vs : List Value}
theorem frN_ (h:d.R e w base (fun k=>ok k∧k≠g) v xs):d.R e (putN w g o vs) base (fun k=>ok k∧k≠g) v xs:=putN_ind (C:=fun w=>d.R e w base (fun k=>ok k∧k≠g) v xs) (fun _ _ u h=>Kd.R_far (p:=⟨g,_,none⟩) h (fun _ hk=>hk.2) u) vs w o h
end
def bz (n m:Nat):Array Bool:=((List.range n).map fun i=>m.testBit i).toArray
section
variable {P : Program} {md : Region.Mode} {ops : Array Oper} {Q : Exit → Act → World → Prop} {S : World → Prop} {ds : List Nat} {i : Nat} {N : Option Tmp} {fuel : Nat} {l : Array Bool} {a : Act} {w : World}
theorem px_ (l':Array Bool) (hc:anyB md ops l l' i=true) {oi:Oper} {v:Value} {a':Act} (h:qn_ P md ops Q S ds fuel l' a' w) (hi:ops[i]?=some oi:=by rfl) (hN:oi.dst=N:=by rfl)
    (hQ:∀ c a w,Q (.panic c) (a.put oi.dst v) w→Q (.panic c) a w:=by exact fun _ _ _ h=>h) (hw:Region.wanted oi (yielded ops a.tmps)=true:=by rfl) (hv:∀ w',(execOp a.eval oi).run P w'=.ok (.value v) w':=by intro w';go_simp;with_reducible rfl)
    (ha:a.put N v=a':=by simp only [Act.put,List.setIfInBounds_toArray,List.set_cons_zero,List.set_cons_succ,i64_w,i32_w];rfl):qn_ P md ops Q S ds (fuel+1) l a w:=pure_ l' hi hN hc hQ (Or.inl ⟨hw,hv⟩) ha h
theorem ox_ (l':Array Bool) (hc:anyB md ops l l' i=true) {oi:Oper} {a':Act} (h:qn_ P md ops Q S ds fuel l' a' w) (hi:ops[i]?=some oi:=by rfl) (hN:oi.dst=N:=by rfl)
    (hQ:∀ c a w,Q (.panic c) (a.put oi.dst undef) w→Q (.panic c) a w:=by exact fun _ _ _ h=>h) (hw:Region.wanted oi (yielded ops a.tmps)=false:=by rfl)
    (ha:a.put N undef=a':=by simp only [Act.put,List.setIfInBounds_toArray,List.set_cons_zero,List.set_cons_succ,i64_w,i32_w];rfl):qn_ P md ops Q S ds (fuel+1) l a w:=pure_ l' hi hN hc hQ (Or.inr ⟨hw,rfl⟩) ha h
theorem tx_ (l':Array Bool) {oi:Oper} (hi:ops[i]?=some oi) (hN:oi.dst=N) (hc:takeB md ops ds l l' i=true) (hS:S w) {v:Value} {a':Act} (hv:∀ w',S w'→(execOp a.eval oi).run P w'=.ok (.value v) w') (h:qn_ P md ops Q S ds fuel l' a' w)
    (hQ:∀ c a w,Q (.panic c) (a.put oi.dst v) w→Q (.panic c) a w:=by exact fun _ _ _ h=>h) (hw:Region.wanted oi (yielded ops a.tmps)=true:=by rfl)
    (ha:a.put N v=a':=by simp only [Act.put,List.setIfInBounds_toArray,List.set_cons_zero,List.set_cons_succ,i64_w,i32_w];rfl):qn_ P md ops Q S ds (fuel+1) l a w:=take_ l' hi hN hc hQ (Or.inl ⟨hw,hv⟩) hS ha h
theorem oa_ (i N n m:Nat) {T:Bool×List (List Nat×List Nat)} (hT:Aside0 (rtab md ops=T)) {oi:Oper}
    (h:∀ K:Act→World→Prop,Shut (∀ a' w',S w'→(S w'→qn_ P md ops Q S ds fuel (bz n m) a' w')→K a' w')→if Region.wanted oi (yielded ops a.tmps)=true then Oper.wp P oi a w K Q else K (a.put (some N) undef) w) (hi:ops[i]?=some oi:=by rfl) (hN:oi.dst=some N:=by rfl) (hc:(readyT T.2 l.toList == [i] && l.toList.set i true == (bz n m).toList)=true:=by kernel_rfl) (hd:i ∉ ds:=by decide) :
    qn_ P md ops Q S ds (fuel+1) l a w:=one_ (bz n m) hi hN (one_of hT.out hc) hd h
theorem pb_ (i:Nat) {n m N:Nat} {T:Bool×List (List Nat×List Nat)} {oi:Oper} {v:Value} {a':Act} (h:qn_ P md ops Q S ds fuel (bz n (m+2 ^ i)) a' w) (hT:Aside0 (rtab md ops=T):=by assumption) (hc:anyT T (bz n m).toList (bz n (m+2 ^ i)).toList i=true:=by kernel_rfl) (hi:ops[i]?=some oi:=by rfl) (hN:oi.dst=some N:=by rfl)
    (hQ:∀ c a w,Q (.panic c) (a.put oi.dst v) w→Q (.panic c) a w:=by exact fun _ _ _ h=>h) (hw:Region.wanted oi (yielded ops a.tmps)=true:=by rfl) (hv:∀ w',(execOp a.eval oi).run P w'=.ok (.value v) w':=by intro w';go_simp;with_reducible rfl)
    (ha:a.put (some N) v=a':=by simp only [Act.put,List.setIfInBounds_toArray,List.set_cons_zero,List.set_cons_succ,i64_w,i32_w];rfl):qn_ P md ops Q S ds (fuel+1) (bz n m) a w:=px_ (bz n (m+2 ^ i)) (qap_ hT.out hc) h hi hN hQ hw hv ha
theorem ob_ (i:Nat) {n m N:Nat} {T:Bool×List (List Nat×List Nat)} {oi:Oper} {a':Act} (h:qn_ P md ops Q S ds fuel (bz n (m+2 ^ i)) a' w) (hT:Aside0 (rtab md ops=T):=by assumption) (hc:anyT T (bz n m).toList (bz n (m+2 ^ i)).toList i=true:=by kernel_rfl) (hi:ops[i]?=some oi:=by rfl) (hN:oi.dst=some N:=by rfl)
    (hQ:∀ c a w,Q (.panic c) (a.put oi.dst undef) w→Q (.panic c) a w:=by exact fun _ _ _ h=>h) (hw:Region.wanted oi (yielded ops a.tmps)=false:=by rfl)
    (ha:a.put (some N) undef=a':=by simp only [Act.put,List.setIfInBounds_toArray,List.set_cons_zero,List.set_cons_succ,i64_w,i32_w];rfl):qn_ P md ops Q S ds (fuel+1) (bz n m) a w:=ox_ (bz n (m+2 ^ i)) (qap_ hT.out hc) h hi hN hQ hw ha
theorem tb_ (i:Nat) {n m N:Nat} {T:Bool×List (List Nat×List Nat)} {B:List Nat} {oi:Oper} (hi:ops[i]?=some oi) (hN:oi.dst=some N) (hS:S w) {v:Value} {a':Act} (hv:∀ w',S w'→(execOp a.eval oi).run P w'=.ok (.value v) w') (h:qn_ P md ops Q S ds fuel (bz n (m+2 ^ i)) a' w) (hT:Aside0 (rtab md ops=T):=by assumption) (hB:Aside0 (q8_ T.2 B=true):=by assumption) (hc:takeW T B ds (bz n m).toList (bz n (m+2 ^ i)).toList i=true:=by kernel_rfl)
    (hQ:∀ c a w,Q (.panic c) (a.put oi.dst v) w→Q (.panic c) a w:=by exact fun _ _ _ h=>h) (hw:Region.wanted oi (yielded ops a.tmps)=true:=by rfl)
    (ha:a.put (some N) v=a':=by simp only [Act.put,List.setIfInBounds_toArray,List.set_cons_zero,List.set_cons_succ,i64_w,i32_w];rfl):qn_ P md ops Q S ds (fuel+1) (bz n m) a w:=tx_ (bz n (m+2 ^ i)) hi hN (take_ofW hT.out hB.out hc) hS hv h hQ hw ha
theorem rc_ {w W:World} {p:Addr} {v:Value} (hb:Below w.heap.size w W) (h:w.cell? p=some v):W.cell? p=some v:=(hb.cell (World.block_lt_of_cell? w _ h)).trans h
theorem nx_ {v:Value} {a':Act} (h:qn_ P md ops Q S ds fuel l a' w) (ha:a.put N v=a':=by simp only [Act.put,List.setIfInBounds_toArray,List.set_cons_zero,List.set_cons_succ,i64_w,i32_w];rfl):qn_ P md ops Q S ds fuel l (a.put N v) w:=norm_ ha h
end
section
variable {P : Program} {ops : Array Oper} {rest : List Oper} {o : Oper} {a : Act} {Q : Exit → Act → World → Prop} {W : World}
end
theorem an_ {P Q:Prop} (h:P) (k:Q):Aside0 P∧Q:=⟨⟨h⟩,k⟩
theorem pk_ {w w':World} {g:Nat} {o:Obj} (h:w.heap[g]?=some o) (k:w.heap[g]?=some o→w'.heap[g]?=some o:=by intro h;(with_reducible repeat (first | refine blk_drewN ?_ _ | refine qt_ ?_ | refine blk_alloc ?_ _));exact h):w'.heap[g]?=some o:=k h
theorem pB_ {B:Nat} {w0 w w':World} (h:Below B w0 w) (k:Below B w0 w→Below B w0 w':=by intro h;repeat (first | (with_reducible first | exact h | apply q0_ | apply q2_ | apply qr_ | refine qe_ ?_ (Aside0.out (by assumption)) | refine belowN_ ?_ (Aside0.out (by assumption))) | exact h)):Below B w0 w':=k h
section
variable {α : Type} {d : Kd α} {e base : Nat} {ok : Nat → Prop} {v : Value} {xs : List α} {w w' : World}
theorem pR_ (h:Kd.R d e w base ok v xs) (k:Kd.R d e w base ok v xs→Kd.R d e w' base ok v xs:=by intro h;(with_reducible repeat (first | apply Kd.R_alloc | apply Kd.R_drewN | apply Kd.R_drew));exact h):Kd.R d e w' base ok v xs:=k h
theorem pN_ (h:Kd.N d e w base ok v xs) (k:Kd.N d e w base ok v xs→Kd.N d e w' base ok v xs:=by intro h;(with_reducible repeat (first | apply Kd.N_alloc | apply Kd.N_drewN | apply Kd.N_drew));exact h):Kd.N d e w' base ok v xs:=k h
end
theorem ql_ {W:World} {g t:Nat} {v0 v1:Value} (h:W.heap[g]?=some (.cells #[v0,v1] t (0,0))):W.cell? ⟨g,0,none⟩=some v0∧W.cell? ⟨g,1,none⟩=some v1∧W.frozen? ⟨g,0,none⟩=false∧W.frozen? ⟨g,1,none⟩=false:=⟨(qi_ h 0).trans rfl,(qi_ h 1).trans rfl,qj_ h 0,qj_ h 1⟩
theorem q5_ {W:World} {g t:Nat} {v0 v1 v2 v3 v4:Value} (h:W.heap[g]?=some (.cells #[v0,v1,v2,v3,v4] t (0,0))):W.cell? ⟨g,0,none⟩=some v0∧W.cell? ⟨g,1,none⟩=some v1∧W.cell? ⟨g,2,none⟩=some v2∧W.cell? ⟨g,3,none⟩=some v3∧W.cell? ⟨g,4,none⟩=some v4∧W.frozen? ⟨g,0,none⟩=false∧W.frozen? ⟨g,1,none⟩=false∧W.frozen? ⟨g,2,none⟩=false∧W.frozen? ⟨g,3,none⟩=false∧W.frozen? ⟨g,4,none⟩=false:=⟨(qi_ h 0).trans rfl,(qi_ h 1).trans rfl,(qi_ h 2).trans rfl,(qi_ h 3).trans rfl,(qi_ h 4).trans rfl,qj_ h 0,qj_ h 1,qj_ h 2,qj_ h 3,qj_ h 4⟩
theorem cells13 {W:World} {g t:Nat} {v0 v1 v2 v3 v4 v5 v6 v7 v8 v9 v10 v11 v12:Value} (h:W.heap[g]?=some (.cells #[v0,v1,v2,v3,v4,v5,v6,v7,v8,v9,v10,v11,v12] t (0,0))):W.cell? ⟨g,0,none⟩=some v0∧W.cell? ⟨g,1,none⟩=some v1∧W.cell? ⟨g,2,none⟩=some v2∧W.cell? ⟨g,3,none⟩=some v3∧W.cell? ⟨g,4,none⟩=some v4∧W.cell? ⟨g,5,none⟩=some v5∧W.cell? ⟨g,6,none⟩=some v6∧W.cell? ⟨g,7,none⟩=some v7∧W.cell? ⟨g,8,none⟩=some v8∧W.cell? ⟨g,9,none⟩=some v9∧W.cell? ⟨g,10,none⟩=some v10∧W.cell? ⟨g,11,none⟩=some v11∧W.cell? ⟨g,12,none⟩=some v12∧W.frozen? ⟨g,0,none⟩=false∧W.frozen? ⟨g,1,none⟩=false∧W.frozen? ⟨g,2,none⟩=false∧W.frozen? ⟨g,3,none⟩=false∧W.frozen? ⟨g,4,none⟩=false∧W.frozen? ⟨g,5,none⟩=false∧W.frozen? ⟨g,6,none⟩=false∧W.frozen? ⟨g,7,none⟩=false∧W.frozen? ⟨g,8,none⟩=false∧W.frozen? ⟨g,9,none⟩=false∧W.frozen? ⟨g,10,none⟩=false∧W.frozen? ⟨g,11,none⟩=false∧W.frozen? ⟨g,12,none⟩=false:=⟨(qi_ h 0).trans rfl,(qi_ h 1).trans rfl,(qi_ h 2).trans rfl,(qi_ h 3).trans rfl,(qi_ h 4).trans rfl,(qi_ h 5).trans rfl,(qi_ h 6).trans rfl,(qi_ h 7).trans rfl,(qi_ h 8).trans rfl,(qi_ h 9).trans rfl,(qi_ h 10).trans rfl,(qi_ h 11).trans rfl,(qi_ h 12).trans rfl,qj_ h 0,qj_ h 1,qj_ h 2,qj_ h 3,qj_ h 4,qj_ h 5,qj_ h 6,qj_ h 7,qj_ h 8,qj_ h 9,qj_ h 10,qj_ h 11,qj_ h 12⟩
theorem cells14 {W:World} {g t:Nat} {v0 v1 v2 v3 v4 v5 v6 v7 v8 v9 v10 v11 v12 v13:Value} (h:W.heap[g]?=some (.cells #[v0,v1,v2,v3,v4,v5,v6,v7,v8,v9,v10,v11,v12,v13] t (0,0))):W.cell? ⟨g,0,none⟩=some v0∧W.cell? ⟨g,1,none⟩=some v1∧W.cell? ⟨g,2,none⟩=some v2∧W.cell? ⟨g,3,none⟩=some v3∧W.cell? ⟨g,4,none⟩=some v4∧W.cell? ⟨g,5,none⟩=some v5∧W.cell? ⟨g,6,none⟩=some v6∧W.cell? ⟨g,7,none⟩=some v7∧W.cell? ⟨g,8,none⟩=some v8∧W.cell? ⟨g,9,none⟩=some v9∧W.cell? ⟨g,10,none⟩=some v10∧W.cell? ⟨g,11,none⟩=some v11∧W.cell? ⟨g,12,none⟩=some v12∧W.cell? ⟨g,13,none⟩=some v13∧W.frozen? ⟨g,0,none⟩=false∧W.frozen? ⟨g,1,none⟩=false∧W.frozen? ⟨g,2,none⟩=false∧W.frozen? ⟨g,3,none⟩=false∧W.frozen? ⟨g,4,none⟩=false∧W.frozen? ⟨g,5,none⟩=false∧W.frozen? ⟨g,6,none⟩=false∧W.frozen? ⟨g,7,none⟩=false∧W.frozen? ⟨g,8,none⟩=false∧W.frozen? ⟨g,9,none⟩=false∧W.frozen? ⟨g,10,none⟩=false∧W.frozen? ⟨g,11,none⟩=false∧W.frozen? ⟨g,12,none⟩=false∧W.frozen? ⟨g,13,none⟩=false:=⟨(qi_ h 0).trans rfl,(qi_ h 1).trans rfl,(qi_ h 2).trans rfl,(qi_ h 3).trans rfl,(qi_ h 4).trans rfl,(qi_ h 5).trans rfl,(qi_ h 6).trans rfl,(qi_ h 7).trans rfl,(qi_ h 8).trans rfl,(qi_ h 9).trans rfl,(qi_ h 10).trans rfl,(qi_ h 11).trans rfl,(qi_ h 12).trans rfl,(qi_ h 13).trans rfl,qj_ h 0,qj_ h 1,qj_ h 2,qj_ h 3,qj_ h 4,qj_ h 5,qj_ h 6,qj_ h 7,qj_ h 8,qj_ h 9,qj_ h 10,qj_ h 11,qj_ h 12,qj_ h 13⟩
theorem qas_ {A A':Option Addr} {n n' c c':Nat} (h:Value.slice A n c=.slice A' n' c'):A'=A∧c'=c:=by
  injection h with h1 h2 h3
  exact ⟨h1.symm,h3.symm⟩
section
variable {α β : Type} {d : Kd α} {d' : Kd β} {e e' base base' g n : Nat} {ok ok' : Nat → Prop} {u v v0 v1 v2 : Value} {xs : List α} {ys : List β} {w w' W : World} {A : Option Addr}
theorem pC_ (h:d.C w A n xs) (k:d.C w A n xs→d.C w' A n xs:=by intro h;repeat (first | exact h | (with_reducible refine Kd.C_alloc ?_ _) | (with_reducible refine Kd.C_drewN ?_ _) | (with_reducible refine Kd.C_drew ?_))):d.C w' A n xs:=k h
theorem fr_ (h:d.R e w base (fun k=>ok k∧k≠g) v xs) (i:Nat) (u:Value):d.R e (w.setCell ⟨g,i,none⟩ u) base (fun k=>ok k∧k≠g) v xs:=Kd.R_far (p:=⟨g,i,none⟩) h (fun _ hk=>hk.2) u
theorem nw_ (h:d.R e w W.heap.size ok v xs) (hu:d'.R e' W base' ok' u ys):d.R e w W.heap.size (fun k=>ok k∧some k≠u.ownBlock) v xs:=Kd.R_new' h (Kd.R_lt hu)
end
theorem pK_ {w W W':World} {g:Nat} (h:KeepBut w W g none) (k:KeepBut w W g none→KeepBut w W' g none:=by intro h;repeat (first | (with_reducible first | exact h | apply KeepBut.set_ | apply keep_drewN | apply keep_drew | apply keep_alloc | refine qu_ ?_ (Aside0.out (by assumption)) _ | refine keepN_ ?_ (Aside0.out (by assumption))) | exact h)):KeepBut w W' g none:=k h
def thLt (N k:Nat):Nat:=if k < N then k+1 else k
def thGe (N k:Nat):Nat:=if N≤k then k+1 else k
section
variable {P : Program} {ops : Array Oper} {rest : List Oper} {o : Oper} {a : Act} {Q : Exit → Act → World → Prop} {W : World}
theorem bx_ {N:Tmp} {cs:Array Value} {t:TypeId} (h:∀ g,g=W.heap.size→∀ w1,w1.heap[g]?=some (.cells cs t (0,0))→Below W.heap.size W w1→wpList P ops Q rest (a.put o.dst (.pointer (some ⟨g,0,none⟩))) w1)
    (hd:o.dst=some N:=by rfl) (hg:o.guard=none:=by rfl) (hr:(execOp a.eval o).run P W=.ok (.value (.pointer (some ⟨W.heap.size,0,none⟩))) (W.alloc (.cells cs t (0,0))):=by first | (go_simp;done) | (go_simp;rfl)):wpList P ops Q (o :: rest) a W:=box_event hg hd hr h
end
theorem bg_ {w W:World} {g:Nat} (hg:g=W.heap.size) (b:Below w.heap.size w W):w.heap.size≤g:=by rw [hg];exact qh_ b
theorem bc_ {w:World} {g:Nat} {t:TypeId} {cs:Array Value} {v:Value} (h:w.heap[g]?=some (.cells cs t (0,0))) (i:Nat) (e:cs[i]?=some v:=by rfl):w.cell? ⟨g,i,none⟩=some v:=(qi_ h i).trans e
theorem od_ {p:Prop} [Decidable p] (h:decide p=true):p:=of_decide_eq_true h
theorem er_ {α:Type} {a b:α} (h:a=b:=by first | rfl | (simp [qag_,qaf_] <;> rfl) | (simp [*,qag_,qaf_] <;> rfl)):a=b:=h
theorem rw_ {α:Sort _} {a b:α} {G G':Prop} (c:a=b) (h:G') (k:a=b→G=G':=by intro c;first | rw [c] | (simp only [i64_w,i32_w];rw [c]) | (have cz_:=c;simp only [bne,gt_iff_lt,Int.natCast_pos] at cz_;first | rw [cz_] | (simp only [i64_w,i32_w];rw [cz_])) | rfl):G:=(k c).mpr h
theorem fin_ {w:World} {g:Nat} {t:TypeId} {c c':Array Value} (h:w.heap[g]?=some (.cells c t (0,0))) (e:c=c'):w.heap[g]?=some (.cells c' t (0,0)):=e ▸ h
theorem far_ {w:World} {g g' i:Nat} {r:Option Nat} {t:TypeId} {cs:Array Value} (hp:g≠g') (h:w.heap[g]?=some (.cells cs t (0,0))) (u:Value):(w.setCell ⟨g',i,r⟩ u).heap[g]?=some (.cells cs t (0,0)):=qf_ h hp u
theorem pP_ {w w':World} {g:Nat} {t:TypeId} {cs cs':Array Value} (h:w.heap[g]?=some (.cells cs t (0,0))) (k:w.heap[g]?=some (.cells cs t (0,0))→w'.heap[g]?=some (.cells cs' t (0,0)):=by
    intro h;apply fin_;(with_reducible repeat (first | apply blk_drewN | apply qt_ | apply blk_alloc | apply blk_set | (apply far_;exact Aside0.out (by assumption)) | apply putN_allx | (apply farN_;exact Aside0.out (by assumption))));exact h;all_goals (first | with_reducible rfl | (simp only [List.setIfInBounds_toArray,List.set_cons_zero,List.set_cons_succ];done) | (simp only [List.setIfInBounds_toArray,List.set_cons_zero,List.set_cons_succ];rfl) | rfl)):w'.heap[g]?=some (.cells cs' t (0,0)):=k h
section
variable {α : Type} {d : Kd α} {e base g : Nat} {ok ok' ok2 : Nat → Prop} {v : Value} {xs : List α} {w w' : World}
theorem fr2_ (h:d.R e w base (fun k=>ok k∧k≠g) v xs) (i:Nat) (u:Value):d.R e (w.setCell ⟨g,i,none⟩ u) base (fun k=>ok k∧k≠g) v xs:=Kd.R_far (p:=⟨g,i,none⟩) h (fun _ hk=>hk.2) u
theorem rM_ (h:d.R e w base ok v xs) (m:∀ k,ok k→ok' k) (k:d.R e w base ok v xs→d.R e w' base ok v xs:=by intro h;repeat (with_reducible first | exact h | apply Kd.R_alloc | apply Kd.R_drewN | apply Kd.R_drew | refine fr2_ ?_ _ _ | refine frN_ ?_)):d.R e w' base ok' v xs:=Kd.R_mono (k h) m
end
theorem nl_ {W:World} {g gn:Nat} {o:Obj} (hg:gn=W.heap.size) (h:W.heap[g]?=some o):g≠gn:=by rw [hg];exact Nat.ne_of_lt (qz_ h)
theorem ng_ {W:World} {g gn:Nat} {o:Obj} (hg:gn=W.heap.size) (h:W.heap[g]?=some o):gn≠g:=by rw [hg];exact Nat.ne_of_gt (qz_ h)
theorem cs_ {w:World} {a:Addr} {g i:Nat} {r:Option Nat} {u v:Value} (hp:a.block≠g) (h:w.cell? a=some v):(w.setCell ⟨g,i,r⟩ u).cell? a=some v:=(cell_far (p:=⟨g,i,r⟩) hp u).trans h
def Bv (w:World) (g:Nat) (cs:Array Value):Prop:=∃ t,w.heap[g]?=some (.cells cs t (0,0))
theorem bv_ {w:World} {g:Nat} {t:TypeId} {cs cs':Array Value} (h:w.heap[g]?=some (.cells cs t (0,0))) (e:cs=cs':=by rfl):Bv w g cs':=by subst e;exact ⟨t,h⟩
theorem Bv.cell {w:World} {g:Nat} {cs:Array Value} (h:Bv w g cs) (i:Nat):w.cell? ⟨g,i,none⟩=cs[i]?:=by
  obtain ⟨t,h⟩:=h
  exact qi_ h i
theorem Bv.far {w:World} {b g i:Nat} {r:Option Nat} {u:Value} {cs:Array Value} (hp:b≠g) (h:Bv w b cs):Bv (w.setCell ⟨g,i,r⟩ u) b cs:=by
  obtain ⟨t,h⟩:=h
  exact ⟨t,qf_ h (p:=⟨g,i,r⟩) hp u⟩
theorem Bv.farN {w:World} {b g o:Nat} {vs:List Value} {cs:Array Value} (hp:b≠g) (h:Bv w b cs):Bv (putN w g o vs) b cs:=putN_ind (C:=fun w=>Bv w b cs) (fun _ _ _ h=>Bv.far hp h) vs w o h
theorem cF_ {w W:World} {a:Addr} {g:Nat} {v:Value} (hp:a.block≠g) (h:w.cell? a=some v) (k:a.block≠g→w.cell? a=some v→W.cell? a=some v:=by intro hp h;(with_reducible repeat (first | apply cs_ hp | apply csN_ hp));exact h):W.cell? a=some v:=k hp h
theorem bk2_ {w:World} {g:Nat} {t:TypeId} {cs:Array Value} {v0 v1:Value} {R:Prop} (h:w.heap[g]?=some (.cells cs t (0,0))) (r:R) (e0:cs[0]?=some v0:=by rfl) (e1:cs[1]?=some v1:=by rfl):w.cell? ⟨g,0,none⟩=some v0∧w.cell? ⟨g,1,none⟩=some v1∧R:=⟨(qi_ h 0).trans e0,(qi_ h 1).trans e1,r⟩
theorem be2_ {w:World} {g:Nat} {t:TypeId} {cs:Array Value} {v0 v1:Value} (h:w.heap[g]?=some (.cells cs t (0,0))) (e0:cs[0]?=some v0:=by rfl) (e1:cs[1]?=some v1:=by rfl):w.cell? ⟨g,0,none⟩=some v0∧w.cell? ⟨g,1,none⟩=some v1:=⟨(qi_ h 0).trans e0,(qi_ h 1).trans e1⟩
theorem be5_ {w:World} {g:Nat} {t:TypeId} {cs:Array Value} {v0 v1 v2 v3 v4:Value} (h:w.heap[g]?=some (.cells cs t (0,0))) (e0:cs[0]?=some v0:=by rfl) (e1:cs[1]?=some v1:=by rfl) (e2:cs[2]?=some v2:=by rfl) (e3:cs[3]?=some v3:=by rfl) (e4:cs[4]?=some v4:=by rfl):w.cell? ⟨g,0,none⟩=some v0∧w.cell? ⟨g,1,none⟩=some v1∧w.cell? ⟨g,2,none⟩=some v2∧w.cell? ⟨g,3,none⟩=some v3∧w.cell? ⟨g,4,none⟩=some v4:=⟨(qi_ h 0).trans e0,(qi_ h 1).trans e1,(qi_ h 2).trans e2,(qi_ h 3).trans e3,(qi_ h 4).trans e4⟩
def Blk (w:World) (g n:Nat):Prop:=∃ cs t,w.heap[g]?=some (.cells cs t (0,0))∧cs.size=n
theorem Blk.put {w:World} {g b n i:Nat} {v:Value} (h:Blk w g n):Blk (w.setCell ⟨b,i,none⟩ v) g n:=by
  obtain ⟨cs,t,h1,h2⟩:=h
  by_cases e:g=b
  · subst e;exact ⟨_,t,blk_set h1 i v,by simpa using h2⟩
  · exact ⟨cs,t,qf_ h1 e v,h2⟩
theorem Blk.drewN {w:World} {g n:Nat} (h:Blk w g n) (m:Nat):Blk (w.drewN m) g n:=h
theorem Blk.drew {w:World} {g n:Nat} (h:Blk w g n):Blk w.drew g n:=h
theorem Blk.alloc {w:World} {g n:Nat} (h:Blk w g n) (o:Obj):Blk (w.alloc o) g n:=by
  obtain ⟨cs,t,h1,h2⟩:=h
  exact ⟨cs,t,blk_alloc h1 o,h2⟩
theorem Blk.putN {w:World} {g b n o:Nat} {vs:List Value} (h:Blk w g n):Blk (putN w b o vs) g n:=putN_ind (C:=fun w=>Blk w g n) (fun _ _ _ h=>h.put) vs w o h
theorem bB_ {w W:World} {g:Nat} {t:TypeId} {cs:Array Value} (h:w.heap[g]?=some (.cells cs t (0,0))) (k:Blk w g cs.size→Blk W g cs.size:=by intro h;(with_reducible repeat (first | apply Blk.put | apply Blk.putN | apply Blk.drewN | apply Blk.drew | apply Blk.alloc));exact h):Blk W g cs.size:=k ⟨cs,t,h,rfl⟩
theorem lf0_ {P:Program} {w:World} {g n i:Nat} {v:Value} {m:Mode} (h:Blk w g n) (hi:i < n):stored P w ⟨g,i,none⟩ v m=.ok () (w.setCell ⟨g,i,none⟩ v):=by
  obtain ⟨cs,t,h1,h2⟩:=h
  have hc:=qi_ h1 i
  rw [Array.getElem?_eq_getElem (show i < cs.size by omega)] at hc
  unfold stored
  rw [hc,qj_ h1 i]
  rfl
theorem ao_ {α β:Type} {r:Result α} {a:α} {w:World} {K:α→World→Result β} {out:Result β} (h:r=.ok a w) (hk:K a w=out):r.andThen K=out:=by rw [h];exact hk
theorem lf_ {P:Program} {w:World} {g n i:Nat} {v:Value} {m:Mode} {α:Type} {F:Unit→World→Result α} (h:Blk w g n) (hi:i < n):(stored P w ⟨g,i,none⟩ v m).andThen F=F () (w.setCell ⟨g,i,none⟩ v):=ao_ (lf0_ h hi) rfl
section
variable {P : Program} {ops : Array Oper} {rest : List Oper} {o : Oper} {a : Act} {Q : Exit → Act → World → Prop} {W w1 : World}
end
def ldd (P:Program) (w:World) (p:Addr) (m:Mode):Result Value :=
  match w.cell? p with
  | some v=>.ok v w
  | none =>
    match World.farLoad P w p (m == Mode.atomic) with
    | .ok (v,_)=>.ok v w
    | .error h=>.halt h w
theorem lg_ {P:Program} {w:World} {p:Addr} {v:Value} {m:Mode} {α:Type} {F:Value→World→Result α} (h:w.cell? p=some v):(ldd P w p m).andThen F=F v w:=by
  unfold ldd
  rw [h]
  rfl
section
variable {P : Program} {ops : Array Oper} {rest : List Oper} {o : Oper} {a : Act} {Q : Exit → Act → World → Prop} {W : World} {v : Value}
end
theorem pL_ {w w':World} {g:Nat} {t:TypeId} {cs cs':Array Value} (h:w.heap[g]?=some (.cells cs t (0,0))) (k:w.heap[g]?=some (.cells cs t (0,0))→w'.heap[g]?=some (.cells cs' t (0,0)):=by
    intro h;apply fin_;(with_reducible repeat (first | apply blk_drewN | apply qt_ | apply blk_alloc | apply blk_set | (apply far_;exact Aside0.out (by assumption)) | apply putN_allx | (apply farN_;exact Aside0.out (by assumption))));exact h;all_goals ((try simp only [List.setIfInBounds_toArray,List.set_cons_zero,List.set_cons_succ]);rfl)):w'.heap[g]?=some (.cells cs' t (0,0)):=k h
section
variable {P : Program} {ops : Array Oper} {rest : List Oper} {o : Oper} {a : Act} {Q : Exit → Act → World → Prop} {W w1 : World} {v : Value}
theorem ldw_ (hw:Region.wanted o (yielded ops a.tmps)=true) (hrun:(execOp a.eval o).run P W=.ok (.value v) W) (h:wpList P ops Q rest (a.put o.dst v) W):wpList P ops Q (o :: rest) a W:=by
  unfold wpList
  rw [if_pos hw]
  refine .inl ?_
  unfold Oper.wp
  rw [hrun]
  exact h
theorem gld_ (t:TypeId) {p:Operand} (_ho:o.op=.load t p) (h:wpList P ops Q (o :: rest) a W):wpList P ops Q (o :: rest) a W:=h
theorem gst_ (t:TypeId) {p v:Operand} (_ho:o.op=.store t p v) (h:wpList P ops Q (o :: rest) a W):wpList P ops Q (o :: rest) a W:=h
theorem gbd_ (t:TypeId) {ps:Array (Nat×Operand)} (_ho:o.op=.build t ps) (h:wpList P ops Q (o :: rest) a W):wpList P ops Q (o :: rest) a W:=h
theorem gbs_ (t:TypeId) {n:Nat} {ps:Array (Nat×Operand)} (_ho:o.op=.buildSlice t n ps) (h:wpList P ops Q (o :: rest) a W):wpList P ops Q (o :: rest) a W:=h
theorem evw_ (hw:Region.wanted o (yielded ops a.tmps)=true) (hrun:(execOp a.eval o).run P W=.ok (.value v) w1) (h:wpList P ops Q rest (a.put o.dst v) w1):wpList P ops Q (o :: rest) a W:=by
  unfold wpList
  rw [if_pos hw]
  refine .inl ?_
  unfold Oper.wp
  rw [hrun]
  exact h
theorem stw_ (hw:Region.wanted o (yielded ops a.tmps)=true) (hN:o.dst=none) (hrun:(execOp a.eval o).run P W=.ok .skip w1) (h:wpList P ops Q rest a w1):wpList P ops Q (o :: rest) a W:=by
  unfold wpList
  rw [if_pos hw]
  refine .inl ?_
  unfold Oper.wp
  rw [hrun]
  show wpList P ops Q rest (a.put o.dst undef) w1
  rw [hN]
  exact h
end
end Go.Proofs.YteahaehbciccmaaV
