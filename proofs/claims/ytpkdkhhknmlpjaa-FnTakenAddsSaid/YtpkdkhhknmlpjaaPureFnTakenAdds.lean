/- Taken of a span is the sum over its two parts, at most Tops on each resource, and equal to Tops on those of Mains: the law answers true at every code. No condition. -/
import Derived.Test.YtpkdkhhknmlpjaaPFnTakenAddsx21
namespace Go.Proofs.Ytpkdkhhknmlpjaa.Pure
open Go.RowKit Go.Proofs.Ytpkdkhhknmlpjaa.PFnTakenAdds Go.Proofs.YtpkdkhhknmlpjaaW.PrintWords Go.Proofs.YtpkdkhhknmlpjaaW.PrintLast Go.Proofs.YtpkdkhhknmlpjaaW.PrintMore Go.Proofs.YtpkdkhhknmlpjaaV
set_option linter.unusedVariables false
set_option linter.unusedSimpArgs false
theorem down {N:Nat} {P:Nat→Prop} (h0:P N) (hs:∀ n,n < N→P (n+1)→P n):∀ n,n≤N→P n:=by
 intro n hn
 obtain ⟨d,rfl⟩:∃ d,N=n+d:=⟨N - n,by omega⟩
 clear hn
 induction d generalizing n with
 | zero=>exact h0
 | succ d ih=>exact hs n (by omega) (ih (n+1) (by rw [show n+1+d=n+(d+1) by omega];exact h0) (fun m hm hp=>hs m (by omega) hp))
theorem wrap_id {x:Int} (h1:-9223372036854775808≤x) (h2:x≤9223372036854775807):wrap64 x=x:=by
 unfold wrap64;omega
theorem wrap_succ {n:Nat} (h:n < 4611686018427387904):wrap64 ((n:Int)+1)=((n+1:Nat):Int):=by
 rw [wrap_id (by omega) (by omega)];omega
theorem wrap_pred {n:Nat} (h0:0 < n) (h:n < 4611686018427387904):wrap64 ((n:Int) - 1)=((n - 1:Nat):Int):=by
 rw [wrap_id (by omega) (by omega)];omega
theorem getD_lt {α:Type} {l:List α} {n:Nat} (d:α) (h:n < l.length):l.getD n d=l[n]:=by
 rw [List.getD_eq_getElem?_getD,List.getElem?_eq_getElem h];rfl
theorem rd_nat (l:List Int) (n:Nat):rd l (n:Int)=l.getD n 0:=by
 unfold rd;simp
theorem Ev.now' {α:Type} {g:Nat→Option α} {r:α} (h:∀ k,g k=some r):Ev g r:=⟨0,fun k _=>h k⟩
theorem Ev.next {α:Type} {g f:Nat→Option α} {r:α} (k:Ev f r) (h:∀ k,g (k+1)=f k):Ev g r:=Ev.step h k
theorem Ev.to {α:Type} {g:Nat→Option α} {r q:α} (h:Ev g r) (e:r=q):Ev g q:=e ▸ h
theorem mem_drop {α:Type} {l:List α} {n:Nat} (h:n < l.length) {x:α}:x ∈ l.drop n ↔ x=l[n]∨x ∈ l.drop (n+1):=by
 rw [List.drop_eq_getElem_cons h,List.mem_cons]
theorem any_drop {α:Type} {l:List α} {n:Nat} (h:n < l.length) (q:α→Bool):(l.drop n).any q=(q l[n] || (l.drop (n+1)).any q):=by
 rw [List.drop_eq_getElem_cons h,List.any_cons]
theorem all_drop {α:Type} {l:List α} {n:Nat} (h:n < l.length) (q:α→Bool):(l.drop n).all q=(q l[n] && (l.drop (n+1)).all q):=by
 rw [List.drop_eq_getElem_cons h,List.all_cons]
theorem dec_false {p:Prop} [Decidable p] (h:¬ p):false=decide p:=(decide_eq_false h).symm
theorem dec_true {p:Prop} [Decidable p] (h:p):true=decide p:=(decide_eq_true h).symm
theorem dec_iff {p q:Prop} [Decidable p] [Decidable q] (h:p ↔ q):decide p=decide q:=decide_eq_decide.2 h
structure S59 where
 f0:Int
 f1:S29
 f2:List S83
def G {α:Type} (f:Nat→Option α) (P:α→Prop):Prop:=∃ t,Ev f t∧P t
theorem G.bind {α β:Type} {f:Nat→Option α} {h:Nat→α→Option β} {P:α→Prop} {Q:β→Prop} (hf:G f P) (hh:∀ t,P t→G (fun k=>h k t) Q):G (fun k=>(f k).bind (h k)) Q:=by
 obtain ⟨t,ht,hP⟩:=hf
 obtain ⟨u,hu,hQ⟩:=hh t hP
 exact ⟨u,Ev.bind ht hu,hQ⟩
theorem G.now {α:Type} {t:α} {P:α→Prop} (h:P t):G (fun _=>some t) P:=⟨t,Ev.now t,h⟩
theorem G.of {α:Type} {f:Option α} {P:α→Prop} (h:∃ t,f=some t∧P t):G (fun _=>f) P:=by
 obtain ⟨t,rfl,hP⟩:=h
 exact G.now hP
theorem G.next {α:Type} {g f:Nat→Option α} {P:α→Prop} (h:G f P) (e:∀ k,g (k+1)=f k):G g P:=by
 obtain ⟨t,ht,hP⟩:=h
 exact ⟨t,Ev.next ht e,hP⟩
theorem G.ev {α:Type} {f:Nat→Option α} {t:α} {P:α→Prop} (h:Ev f t) (hP:P t):G f P:=⟨t,h,hP⟩
def AllB (l:List Int):Prop:=∀ x ∈ l,0≤x∧x < 256
theorem allB_get {l:List Int} (h:AllB l) {n:Nat} (hn:n < l.length):0≤l.getD n 0∧l.getD n 0 < 256:=by
 rw [getD_lt 0 hn];exact h _ (List.getElem_mem hn)
def Dr (n:Nat) (x s:Int):Prop:=0≤x∧x≤n∧0≤s∧s≤65521
theorem Dr.mono {n m:Nat} {x s:Int} (h:Dr n x s) (hm:n≤m):Dr m x s:=⟨h.1,by have:=h.2.1;omega,h.2.2⟩
theorem byte_wf {x:Int} (h:(Lit.int .u8 x).wf=true):0≤x∧x < 256:=by
 have e1:IntKind.u8.min=0:=by decide
 have e2:IntKind.u8.max=255:=by decide
 simp [Lit.wf,IntKind.wrap,IntKind.signed,IntKind.bits,e1,e2] at h
 omega
section
variable {l : List Int} (hl : AllB l) (hz : l.length ≤ 1048576) {n : Nat} {x s : Int} (h : Dr n x s) (hn : n ≤ 1000000)
include hl hz h hn
theorem pick_ok (a:Int):∃ t:Int×Int×Int,spec_l01Cur_pick.f l x s a=some t∧0≤t.1∧(1≤a→t.1 < a)∧Dr (n+1) t.2.1 t.2.2:=by
 obtain ⟨h1,h2,h3,h4⟩:=h
 have hx:wrap64 (x+1)=x+1:=wrap_id (by omega) (by omega)
 have e1:wrap64 (s * 1103)=s * 1103:=wrap_id (by omega) (by omega)
 have e2:wrap64 (s * 1103+12345)=s * 1103+12345:=wrap_id (by omega) (by omega)
 have e3:Int.tmod (s * 1103+12345) 65521=(s * 1103+12345) % 65521:=Int.tmod_eq_emod_of_nonneg (by omega)
 have e4:0≤(s * 1103+12345) % 65521∧(s * 1103+12345) % 65521 < 65521:=by omega
 unfold spec_l01Cur_pick.f
 by_cases ha:a < 2
 ·rw [if_pos ha];exact ⟨_,rfl,by simp,by intro;simp;omega,h1,by simp;omega,h3,h4⟩
 ·rw [if_neg ha,e1,e2,e3,hx]
  have md:∀ v:Int,0≤v→Int.tmod v a=v % a:=fun v hv=>Int.tmod_eq_emod_of_nonneg hv
  by_cases c1:x < (l.length:Int)
  ·obtain ⟨m,rfl⟩:∃ m:Nat,x=(m:Int):=⟨x.toNat,by omega⟩
   have hb:=allB_get hl (show m < l.length by omega)
   rw [if_pos c1,if_pos h1,if_neg (show ¬ (a=0) by omega),rd_nat,wrap_id (by omega) (by omega),md _ hb.1]
   exact ⟨_,rfl,Int.emod_nonneg _ (by omega),fun _=>Int.emod_lt_of_pos _ (by omega),by simp;omega,by simp;omega,h3,h4⟩
  ·rw [if_neg c1]
   by_cases c2:(l.length:Int) > 0
   ·have e5:Int.tmod x (l.length:Int)=x % (l.length:Int):=Int.tmod_eq_emod_of_nonneg h1
    have e6:=Int.emod_nonneg x (show (l.length:Int)≠0 by omega)
    have e7:=Int.emod_lt_of_pos x c2
    obtain ⟨m,hm⟩:∃ m:Nat,x % (l.length:Int)=(m:Int):=⟨(x % (l.length:Int)).toNat,by omega⟩
    have hb:=allB_get hl (show m < l.length by omega)
    rw [if_pos c2,if_neg (show ¬ ((l.length:Int)=0) by omega),e5,if_pos e6,if_pos e7,if_neg (show ¬ (a=0) by omega),hm,rd_nat,Int.tdiv_eq_ediv_of_nonneg e4.1,wrap_id (x:=(s * 1103+12345) % 65521 / 7) (by omega) (by omega),wrap_id (x:=l.getD m 0) (by omega) (by omega),wrap_id (by omega) (by omega),md _ (by omega)]
    exact ⟨_,rfl,Int.emod_nonneg _ (by omega),fun _=>Int.emod_lt_of_pos _ (by omega),by simp;omega,by simp;omega,e4.1,by simp;omega⟩
   ·rw [if_neg c2,if_neg (show ¬ (a=0) by omega),md _ (Int.le_refl 0)]
    exact ⟨_,rfl,by simp,by simp;omega,by simp;omega,by simp;omega,e4.1,by simp;omega⟩
end
section
variable {l : List Int} (hl : AllB l) (hz : l.length ≤ 1048576) {n : Nat} {x s : Int} (h : Dr n x s) (hn : n ≤ 990000)
include hl hz h hn
theorem raw_ok:∃ t:Int×Int×Int,spec_l01Cur_raw.f l x s=some t∧Dr (n+2) t.2.1 t.2.2:=by
 obtain ⟨t,e,h0,h1,hd⟩:=pick_ok hl hz h (by omega) 8
 unfold spec_l01Cur_raw.f
 simp only [Option.bind_some,e]
 by_cases c0:t.1=0
 ·obtain ⟨u,eu,_,_,hu⟩:=pick_ok hl hz hd (by omega) 256
  rw [if_pos c0,eu]
  exact ⟨_,rfl,hu⟩
 ·rw [if_neg c0]
  by_cases c1:t.1=1
  ·obtain ⟨u,eu,u0,u1,hu⟩:=pick_ok hl hz hd (by omega) 8
   have:=u1 (by omega)
   rw [if_pos c1,eu]
   simp only [Option.bind_some]
   rw [if_pos u0,if_pos (by simpa using this)]
   exact ⟨_,rfl,hu⟩
  ·obtain ⟨u,eu,_,_,hu⟩:=pick_ok hl hz hd (by omega) 14
   rw [if_neg c1,eu]
   exact ⟨_,rfl,hu⟩
theorem wide_ok (a:Int) (ha:a≠0):∃ t:Int×Int×Int,spec_l01Cur_wide.f l x s a=some t∧Dr (n+3) t.2.1 t.2.2:=by
 obtain ⟨t,e,_,_,ht⟩:=pick_ok hl hz h (by omega) 256
 obtain ⟨u,eu,_,_,hu⟩:=pick_ok hl hz ht (by omega) 256
 obtain ⟨v,ev,_,_,hv⟩:=pick_ok hl hz hu (by omega) 256
 unfold spec_l01Cur_wide.f
 simp only [Option.bind_some,e,eu,ev]
 rw [if_neg ha]
 exact ⟨_,rfl,hv⟩
end
section
variable {l : List Int} (hl : AllB l) (hz : l.length ≤ 1048576) {n : Nat} {x s : Int} (h : Dr n x s) (hn : n ≤ 990000)
include hl hz h hn
theorem once_ok (a:Int):∃ t:Bool×Int×Int,spec_l01Cur_once.f l x s a=some t∧Dr (n+1) t.2.1 t.2.2:=by
 obtain ⟨t,e,h0,h1,hd⟩:=pick_ok hl hz h (by omega) a
 unfold spec_l01Cur_once.f
 simp only [Option.bind_some,e]
 exact ⟨_,rfl,hd⟩
end
theorem wrap_stride (b:Int) (h0:1≤b):wrap64 (Int.tdiv 2520 b)=2520 / b:=by
 have e:Int.tdiv 2520 b=2520 / b:=Int.tdiv_eq_ediv_of_nonneg (by omega)
 have h1:0≤2520 / b:=Int.ediv_nonneg (by omega) (by omega)
 have h2:2520 / b≤2520:=Int.ediv_le_self _ (by omega)
 rw [e,wrap_id (by omega) (by omega)]
def stride (b:Int):Int:=if 1≤b∧b≤10 then 2520 / b else 0
theorem sStride_eq (b:Int):spec_Stride.f b=some (stride b):=by
 unfold spec_Stride.f stride
 by_cases h1:b < 1
 ·rw [if_pos h1,if_neg (by omega)]
 ·rw [if_neg h1]
  by_cases h2:b > 10
  ·rw [if_pos h2,if_neg (by omega)]
  ·rw [if_neg h2,if_neg (by omega),if_pos (by omega),wrap_stride b (by omega)]
theorem stride_pos {b:Int} (h:1≤b∧b≤10):252≤stride b∧stride b≤2520:=by
 unfold stride
 rw [if_pos h]
 constructor
 ·rw [Int.le_ediv_iff_mul_le (by omega)];omega
 ·exact Int.ediv_le_self _ (by omega)
theorem stride_zero (b:Int):stride b=0 ↔ ¬ (1≤b∧b≤10):=by
 by_cases h:1≤b∧b≤10
 ·have:=stride_pos h
  constructor
  ·intro h2;omega
  ·intro h2;exact absurd h h2
 ·unfold stride;simp [h]
theorem within_eq (a b c:Int):impl_within.f a b c=some (decide (b≤a∧a≤c)):=by
 unfold impl_within.f
 by_cases h:a ≥ b
 ·rw [if_pos h];congr 1;simp;omega
 ·rw [if_neg h];congr 1;simp;omega
theorem isWeight_eq (b:Int):impl_isWeight.f b=some (decide (1≤b∧b≤10)):=by
 unfold impl_isWeight.f;rw [within_eq];rfl
def vFrom (a b c lo hi:Int):Bool:=decide ((lo≤a∧a≤hi)∧(lo≤b∧b≤hi)∧(lo≤c∧c≤hi))
theorem sAll_eq (a b c lo hi:Int):spec_l13All.f a b c lo hi=some (vFrom a b c lo hi):=by
 unfold spec_l13All.f vFrom
 repeat' split
 all_goals (congr 1;first | exact dec_iff (by omega) | exact dec_false (by omega) | exact dec_true (by omega))
theorem iFrom_eq (a b c lo hi:Int):impl_Vec_isFrom.f a b c lo hi=some (vFrom a b c lo hi):=by
 unfold impl_Vec_isFrom.f vFrom
 simp only [within_eq,Option.bind_some,decide_eq_true_eq]
 repeat' split
 all_goals (congr 1;first | exact dec_iff (by omega) | exact dec_false (by omega) | exact dec_true (by omega))
theorem sCharge_eq (a b c:Int):spec_ChargeOk.f a b c=some (vFrom a b c 1 2000):=by
 unfold spec_ChargeOk.f;rw [sAll_eq];rfl
theorem iCharge_eq (a b c:Int):impl_ChargeOk.f a b c=some (vFrom a b c 1 2000):=by
 unfold impl_ChargeOk.f;rw [iFrom_eq];rfl
theorem sIn_loop (l:List Int) (x:Int) (hl:l.length < 4611686018427387904):∀ n,n≤l.length→Ev (fun k=>spec_l19In.l0 k l x (n:Int)) (decide (x ∈ l.drop n)):=by
 refine down ?_ ?_
 ·refine Ev.next (f:=fun _=>some _) (Ev.now _) fun k=>?_
  simp only [spec_l19In.l0];rw [if_neg (by omega)];simp
 ·intro n hn ih
  have hd:=List.drop_eq_getElem_cons hn
  by_cases h:l[n]=x
  ·refine Ev.next (f:=fun _=>some _) (Ev.now _) fun k=>?_
   simp only [spec_l19In.l0]
   rw [if_pos (by omega),if_pos (by omega),rd_nat,getD_lt 0 hn,if_pos h];exact congrArg some (dec_true ((mem_drop hn).2 (.inl h.symm)))
  ·refine Ev.next (Ev.to ih ?_) fun k=>?_
   ·exact dec_iff (by rw [mem_drop hn];simp only [Ne.symm h,false_or])
   ·simp only [spec_l19In.l0]
    rw [if_pos (by omega),if_pos (by omega),rd_nat,getD_lt 0 hn,if_neg h,wrap_succ (by omega)]
theorem sIn_ev (l:List Int) (x:Int) (hl:l.length < 4611686018427387904):Ev (fun k=>spec_l19In.f k l x) (decide (x ∈ l)):=by
 have:=sIn_loop l x hl 0 (by omega)
 simpa [spec_l19In.f] using this
theorem idx_loop (l:List Int) (x:Int) (hl:l.length < 4611686018427387904):∀ n,n≤l.length→∃ r:Int,Ev (fun k=>slices_Index_int_int.l0 k l x (l.length:Int) (n:Int)) r∧(0≤r ↔ x ∈ l.drop n):=by
 refine down ?_ ?_
 ·refine ⟨-1,Ev.next (f:=fun _=>some _) (Ev.now _) fun k=>?_,by simp⟩
  simp only [slices_Index_int_int.l0];rw [if_neg (by omega)]
 ·intro n hn ih
  have hd:=List.drop_eq_getElem_cons hn
  by_cases h:x=l[n]
  ·refine ⟨n,Ev.next (f:=fun _=>some _) (Ev.now _) fun k=>?_,⟨fun _=>(mem_drop hn).2 (.inl h),fun _=>by omega⟩⟩
   simp only [slices_Index_int_int.l0]
   rw [if_pos (by omega),if_pos (by omega),if_pos (by omega),rd_nat,getD_lt 0 hn,if_pos h]
  ·obtain ⟨r,hr,hm⟩:=ih
   refine ⟨r,Ev.next hr fun k=>?_,by rw [hm,mem_drop hn];simp only [h,false_or]⟩
   simp only [slices_Index_int_int.l0]
   rw [if_pos (by omega),if_pos (by omega),if_pos (by omega),rd_nat,getD_lt 0 hn,if_neg h,wrap_succ (by omega)]
theorem iContains_ev (l:List Int) (x:Int) (hl:l.length < 4611686018427387904):Ev (fun k=>slices_Contains_int_int.f k l x) (decide (x ∈ l)):=by
 obtain ⟨r,hr,hm⟩:=idx_loop l x hl 0 (by omega)
 unfold slices_Contains_int_int.f slices_Index_int_int.f
 refine Ev.to (Ev.bind hr (f:=fun _ t=>some (decide (t ≥ 0))) (Ev.now _)) ?_
 rw [decide_eq_decide]
 simpa using hm
theorem rdD_nat (l:List S44) (n:Nat) (h:n < l.length):rd_T44 l (n:Int)=l[n]:=by
 unfold rd_T44;rw [Int.toNat_natCast,getD_lt _ h]
def okAt (l:List Int) (n:Nat):Bool:=decide (0≤l.getD n 0∧l.getD n 0≤9999) && (decide (n=0) || decide (l.getD (n - 1) 0 < l.getD n 0))
def busyFrom (l:List Int):Nat→Nat→Bool
 | 0,_=>true
 | d+1,n=>okAt l n && busyFrom l d (n+1)
def dealOkM (x:S44):Bool:=vFrom x.f2.f0 x.f2.f1 x.f2.f2 1 2000 && decide (1≤x.f1∧x.f1≤10) && decide (x.f0 ∈ x.f3) && busyFrom x.f3 x.f3.length 0
def dealsOkM (l:List S44):Bool:=decide (l.length≤200) && l.all dealOkM
theorem okAt_no {l:List Int} {n:Nat} (h:¬ (0≤l.getD n 0∧l.getD n 0≤9999)):okAt l n=false:=by
 unfold okAt;rw [decide_eq_false h];rfl
theorem okAt_no2 {l:List Int} {n:Nat} (h0:¬ n=0) (h:¬ l.getD (n - 1) 0 < l.getD n 0):okAt l n=false:=by
 unfold okAt;rw [decide_eq_false h0,decide_eq_false h];simp
theorem okAt_yes {l:List Int} {n:Nat} (h:0≤l.getD n 0∧l.getD n 0≤9999) (h0:n=0∨l.getD (n - 1) 0 < l.getD n 0):okAt l n=true:=by
 unfold okAt;rw [decide_eq_true h]
 rcases h0 with h0 | h0
 ·rw [decide_eq_true h0];rfl
 ·rw [decide_eq_true h0];simp
theorem busy_ge {l:List Int}:∀ d n,n+d=l.length→busyFrom l d n=true→(n=0∨(n:Int) - 1≤l.getD (n - 1) 0)→∀ m,n≤m→m < l.length→(m:Int)≤l.getD m 0∧l.getD m 0≤9999:=by
 intro d
 induction d with
 | zero=>intro n h1 _ _ m h2 h3;omega
 | succ d ih =>
  intro n h1 h2 h0 m h3 h4
  simp only [busyFrom,okAt,Bool.and_eq_true,decide_eq_true_eq,Bool.or_eq_true] at h2
  obtain ⟨⟨⟨h5,h6⟩,h7⟩,h8⟩:=h2
  have hn:(n:Int)≤l.getD n 0:=by
   rcases h0 with h0 | h0
   ·subst h0;simpa using h5
   ·rcases h7 with h7 | h7
    ·subst h7;simpa using h5
    ·omega
  by_cases he:m=n
  ·subst he;exact ⟨hn,h6⟩
  ·exact ih (n+1) (by omega) h8 (.inr (by simpa using hn)) m (by omega) h4
theorem busy_len {l:List Int} (h:busyFrom l l.length 0=true):l.length≤10000:=by
 by_cases hl:l.length=0
 ·omega
 ·have:=busy_ge l.length 0 (by omega) h (.inl rfl) (l.length - 1) (by omega) (by omega)
  omega
theorem dealOk_spec (x:S44):(vFrom x.f2.f0 x.f2.f1 x.f2.f2 1 2000 && decide (1≤x.f1∧x.f1≤10) && decide (x.f3.length≤10000) && decide (x.f0 ∈ x.f3) && busyFrom x.f3 x.f3.length 0)=dealOkM x:=by
 unfold dealOkM
 by_cases h:busyFrom x.f3 x.f3.length 0=true
 ·have:=busy_len h
  simp [h,this]
 ·simp [h]
theorem sBusy_loop (L:List S44) (m:Int) (a0 a1 a2 a3 a4:Int) (l:List Int) (hl:l.length≤1048576) (r:Bool) (hr:Ev (fun k=>spec_DealsOk.l0 k L (wrap64 (m+1))) r):∀ d n,n+d=l.length →
  Ev (fun k=>spec_DealsOk.l1 k L m (n:Int) a0 a1 a2 a3 a4 l) (busyFrom l d n && r):=by
 intro d
 induction d with
 | zero =>
  intro n hn
  refine Ev.next (Ev.to hr (by simp [busyFrom])) fun k=>?_
  simp only [spec_DealsOk.l1];rw [if_neg (by omega)]
 | succ d ih =>
  intro n hn
  have hlt:n < l.length:=by omega
  have hnext:=ih (n+1) (by omega)
  by_cases h1:l.getD n 0 < 0
  ·refine Ev.to (Ev.next (f:=fun _=>some false) (Ev.now _) fun k=>?_) (by simp only [busyFrom,okAt_no (show ¬ (0≤l.getD n 0∧l.getD n 0≤9999) by omega),Bool.false_and])
   simp only [spec_DealsOk.l1];rw [if_pos (by omega),if_pos (by omega),rd_nat,if_pos h1]
  by_cases h2:l.getD n 0 > 9999
  ·refine Ev.to (Ev.next (f:=fun _=>some false) (Ev.now _) fun k=>?_) (by simp only [busyFrom,okAt_no (show ¬ (0≤l.getD n 0∧l.getD n 0≤9999) by omega),Bool.false_and])
   simp only [spec_DealsOk.l1];rw [if_pos (by omega),if_pos (by omega),rd_nat,if_neg h1,if_pos h2]
  by_cases h0:n=0
  ·subst h0
   have ho:okAt l 0=true:=okAt_yes (by omega) (.inl rfl)
   refine Ev.to (Ev.next hnext fun k=>?_) (by simp [busyFrom,ho])
   simp only [spec_DealsOk.l1];rw [if_pos (by omega),if_pos (by omega),rd_nat,if_neg h1,if_neg h2,if_neg (by omega),wrap_succ (by omega)]
  ·by_cases h3:l.getD (n - 1) 0 ≥ l.getD n 0
   ·refine Ev.to (Ev.next (f:=fun _=>some false) (Ev.now _) fun k=>?_) (by simp only [busyFrom,okAt_no2 h0 (show ¬ l.getD (n - 1) 0 < l.getD n 0 by omega),Bool.false_and])
    simp only [spec_DealsOk.l1];rw [if_pos (by omega),if_pos (by omega),rd_nat,if_neg h1,if_neg h2,if_pos (by omega),wrap_pred (by omega) (by omega),if_pos (by omega),if_pos (by omega),rd_nat,if_pos h3]
   ·have ho:okAt l n=true:=okAt_yes (by omega) (.inr (by omega))
    refine Ev.to (Ev.next hnext fun k=>?_) (by simp [busyFrom,ho])
    simp only [spec_DealsOk.l1];rw [if_pos (by omega),if_pos (by omega),rd_nat,if_neg h1,if_neg h2,if_pos (by omega),wrap_pred (by omega) (by omega),if_pos (by omega),if_pos (by omega),rd_nat,if_neg h3,wrap_succ (by omega)]
theorem sDeals_loop (L:List S44) (hl:L.length≤1048576) (hx:∀ x ∈ L,x.f3.length≤1048576):∀ n,n≤L.length→Ev (fun k=>spec_DealsOk.l0 k L (n:Int)) ((L.drop n).all dealOkM):=by
 refine down ?_ ?_
 ·refine Ev.next (f:=fun _=>some _) (Ev.now _) fun k=>?_
  simp only [spec_DealsOk.l0];rw [if_neg (by omega)];simp
 ·intro n hn ih
  have hxn:=hx _ (List.getElem_mem hn)
  rw [all_drop hn,← dealOk_spec]
  rw [show ((n+1:Nat):Int)=wrap64 ((n:Int)+1) from (wrap_succ (by omega)).symm] at ih
  have hb:=sBusy_loop L (n:Int) (L[n].f0) (L[n].f1) (L[n].f2.f0) (L[n].f2.f1) (L[n].f2.f2) L[n].f3 hxn _ ih L[n].f3.length 0 (by omega)
  have hj:Ev (fun k=>spec_DealsOk.j1 k L (n:Int) true (L[n].f0) (L[n].f1) (L[n].f2.f0) (L[n].f2.f1) (L[n].f2.f2) L[n].f3) false:=Ev.next (f:=fun _=>some false) (Ev.now _) fun k=>by simp [spec_DealsOk.j1]
  have hj2:∀ t:Bool,Ev (fun k=>spec_DealsOk.j1 k L (n:Int) (!t) (L[n].f0) (L[n].f1) (L[n].f2.f0) (L[n].f2.f1) (L[n].f2.f2) L[n].f3) (t && (busyFrom L[n].f3 L[n].f3.length 0 && (L.drop (n+1)).all dealOkM)):=by
   intro t
   cases t with
   | false=>simpa using hj
   | true=>exact Ev.to (Ev.next hb fun k=>by simp [spec_DealsOk.j1]) (by simp)
  cases hc:vFrom L[n].f2.f0 L[n].f2.f1 L[n].f2.f2 1 2000 with
  | false =>
   refine Ev.to (Ev.next hj fun k=>?_) (by simp)
   simp only [spec_DealsOk.l0];rw [if_pos (by omega),if_pos (by omega),rdD_nat L n hn,sCharge_eq,hc];simp
  | true =>
   by_cases hw:1≤L[n].f1∧L[n].f1≤10
   ·have hs:¬ stride L[n].f1=0:=fun h=>(stride_zero _).1 h hw
    by_cases h4:(L[n].f3.length:Int) > 10000
    ·refine Ev.to (Ev.next hj fun k=>?_) (by simp;intro;omega)
     simp only [spec_DealsOk.l0];rw [if_pos (by omega),if_pos (by omega),rdD_nat L n hn,sCharge_eq,hc,sStride_eq];simp only [Option.bind_some,if_true];rw [if_neg hs,if_pos h4]
    ·have h4':L[n].f3.length≤10000:=by omega
     refine Ev.to (Ev.next (Ev.bind (sIn_ev L[n].f3 L[n].f0 (by omega)) (f:=fun k t=>spec_DealsOk.j1 k L (n:Int) (!t) (L[n].f0) (L[n].f1) (L[n].f2.f0) (L[n].f2.f1) (L[n].f2.f2) L[n].f3) (hj2 _)) fun k=>?_) (by simp [hw,h4',Bool.and_assoc])
     simp only [spec_DealsOk.l0];rw [if_pos (by omega),if_pos (by omega),rdD_nat L n hn,sCharge_eq,hc,sStride_eq];simp only [Option.bind_some,if_true];rw [if_neg hs,if_neg h4]
   ·have hs:stride L[n].f1=0:=(stride_zero _).2 hw
    refine Ev.to (Ev.next hj fun k=>?_) (by simp [hw])
    simp only [spec_DealsOk.l0];rw [if_pos (by omega),if_pos (by omega),rdD_nat L n hn,sCharge_eq,hc,sStride_eq];simp only [Option.bind_some,if_true];rw [if_pos hs]
theorem sDeals_ev (L:List S44) (hl:L.length≤1048576) (hx:∀ x ∈ L,x.f3.length≤1048576):Ev (fun k=>spec_DealsOk.f k L) (dealsOkM L):=by
 unfold spec_DealsOk.f dealsOkM
 by_cases h:(L.length:Int) > 200
 ·refine Ev.to (Ev.now' fun k=>if_pos h) ?_
  have:¬ L.length≤200:=by omega
  simp [this]
 ·refine Ev.to (Ev.congr (fun k=>if_neg h) (sDeals_loop L hl hx 0 (by omega))) ?_
  have:L.length≤200:=by omega
  simp [this]
theorem iBusy_loop (l:List Int) (a0 a1 a2 a3 a4:Int) (hl:l.length≤1048576) (r:Bool)
  (hr:Ev (fun k=>(impl_ChargeOk.f a2 a3 a4).bind fun t198=>(if t198=true then ((impl_isWeight.f a1).bind fun t199=>(if t199=true then ((slices_Contains_int_int.f k l a0).bind fun t200=>(some t200)) else (some false))) else (some false))) r):∀ d n,n+d=l.length →
  Ev (fun k=>impl_dealOk.l0 k l (l.length:Int) (n:Int) a0 a1 a2 a3 a4 l) (busyFrom l d n && r):=by
 intro d
 induction d with
 | zero =>
  intro n hn
  refine Ev.next (Ev.to hr (by simp [busyFrom])) fun k=>?_
  simp only [impl_dealOk.l0];rw [if_neg (by omega)]
 | succ d ih =>
  intro n hn
  have hlt:n < l.length:=by omega
  have hnext:=ih (n+1) (by omega)
  have hfl:impl_isFlow.f (l.getD n 0)=some (decide (0≤l.getD n 0∧l.getD n 0≤9999)):=by unfold impl_isFlow.f;rw [within_eq];rfl
  by_cases h1:0≤l.getD n 0∧l.getD n 0≤9999
  ·by_cases h0:n=0
   ·subst h0
    have ho:okAt l 0=true:=okAt_yes (by omega) (.inl rfl)
    refine Ev.to (Ev.next hnext fun k=>?_) (by simp [busyFrom,ho])
    simp only [impl_dealOk.l0];rw [if_pos (by omega),if_pos (by omega),if_pos (by omega),rd_nat,hfl,decide_eq_true h1];simp only [Option.bind_some,if_true];rw [if_neg (by omega),wrap_succ (by omega)]
   ·by_cases h3:l.getD (n - 1) 0 ≥ l.getD n 0
    ·refine Ev.to (Ev.next (f:=fun _=>some false) (Ev.now _) fun k=>?_) (by simp only [busyFrom,okAt_no2 h0 (show ¬ l.getD (n - 1) 0 < l.getD n 0 by omega),Bool.false_and])
     simp only [impl_dealOk.l0];rw [if_pos (by omega),if_pos (by omega),if_pos (by omega),rd_nat,hfl,decide_eq_true h1];simp only [Option.bind_some,if_true];rw [if_pos (by omega),wrap_pred (by omega) (by omega),if_pos (by omega),if_pos (by omega),rd_nat,if_pos h3]
    ·have ho:okAt l n=true:=okAt_yes (by omega) (.inr (by omega))
     refine Ev.to (Ev.next hnext fun k=>?_) (by simp [busyFrom,ho])
     simp only [impl_dealOk.l0];rw [if_pos (by omega),if_pos (by omega),if_pos (by omega),rd_nat,hfl,decide_eq_true h1];simp only [Option.bind_some,if_true];rw [if_pos (by omega),wrap_pred (by omega) (by omega),if_pos (by omega),if_pos (by omega),rd_nat,if_neg h3,wrap_succ (by omega)]
  ·refine Ev.to (Ev.next (f:=fun _=>some false) (Ev.now _) fun k=>?_) (by simp only [busyFrom,okAt_no h1,Bool.false_and])
   simp only [impl_dealOk.l0];rw [if_pos (by omega),if_pos (by omega),if_pos (by omega),rd_nat,hfl,decide_eq_false h1];simp
theorem iDeal_ev (x:S44) (hx:x.f3.length≤1048576):Ev (fun k=>impl_dealOk.f k x.f0 x.f1 x.f2.f0 x.f2.f1 x.f2.f2 x.f3) (dealOkM x):=by
 unfold impl_dealOk.f
 refine Ev.to (iBusy_loop x.f3 x.f0 x.f1 x.f2.f0 x.f2.f1 x.f2.f2 hx (vFrom x.f2.f0 x.f2.f1 x.f2.f2 1 2000 && decide (1≤x.f1∧x.f1≤10) && decide (x.f0 ∈ x.f3)) ?_ x.f3.length 0 (by omega)) (by unfold dealOkM;rw [Bool.and_comm])
 simp only [iCharge_eq,isWeight_eq,Option.bind_some]
 cases vFrom x.f2.f0 x.f2.f1 x.f2.f2 1 2000 with
 | false=>exact Ev.now' fun k=>by simp
 | true =>
  by_cases hw:1≤x.f1∧x.f1≤10
  ·simp only [decide_eq_true hw,if_true,Bool.and_self,Bool.true_and]
   exact Ev.bind (iContains_ev x.f3 x.f0 (by omega)) (f:=fun _ t=>some t) (Ev.now _)
  ·exact Ev.now' fun k=>by simp [hw]
theorem Ev.all {α β:Type} {P:Nat→α→Option β} {q:α→β}:∀ l:List α,(∀ x ∈ l,Ev (fun k=>P k x) (q x))→∃ K,∀ k,K≤k→∀ x ∈ l,P k x=some (q x)
 | [],_=>⟨0,fun _ _ x hx=>by cases hx⟩
 | y :: l,h=>by
  obtain ⟨K1,h1⟩:=h y (by simp)
  obtain ⟨K2,h2⟩:=Ev.all l (fun x hx=>h x (by simp [hx]))
  refine ⟨max K1 K2,fun k hk x hx=>?_⟩
  rcases List.mem_cons.1 hx with rfl | hx
  ·exact h1 k (by omega)
  ·exact h2 k (by omega) x hx
theorem iIndexD (L:List S44) (hl:L.length≤1048576) (p:Int→Int→Int→Int→Int→List Int→Option Bool) (q:S44→Bool)
  (hp:∀ x ∈ L,p x.f0 x.f1 x.f2.f0 x.f2.f1 x.f2.f2 x.f3=some (q x)):∀ n,n≤L.length→∃ r:Int,(∀ k,L.length - n < k→slices_IndexFunc_impl_Deal_impl_Deal.l0 k L p (L.length:Int) (n:Int)=some r)∧(0≤r ↔ (L.drop n).any q=true):=by
 refine down ?_ ?_
 ·refine ⟨-1,fun k hk=>?_,by simp⟩
  obtain ⟨k,rfl⟩:∃ m,k=m+1:=⟨k - 1,by omega⟩
  simp only [slices_IndexFunc_impl_Deal_impl_Deal.l0];rw [if_neg (by omega)]
 ·intro n hn ih
  have hd:=List.drop_eq_getElem_cons hn
  have hpn:=hp _ (List.getElem_mem hn)
  cases hq:q L[n] with
  | true =>
   refine ⟨n,fun k hk=>?_,by rw [any_drop hn,hq];simp⟩
   obtain ⟨k,rfl⟩:∃ m,k=m+1:=⟨k - 1,by omega⟩
   simp only [slices_IndexFunc_impl_Deal_impl_Deal.l0]
   rw [if_pos (by omega),if_pos (by omega),if_pos (by omega),rdD_nat L n hn,hpn,hq];simp
  | false =>
   obtain ⟨r,hr,hm⟩:=ih
   refine ⟨r,fun k hk=>?_,by rw [hm,any_drop hn,hq];simp⟩
   obtain ⟨k,rfl⟩:∃ m,k=m+1:=⟨k - 1,by omega⟩
   simp only [slices_IndexFunc_impl_Deal_impl_Deal.l0]
   rw [if_pos (by omega),if_pos (by omega),if_pos (by omega),rdD_nat L n hn,hpn,hq]
   simp only [Option.bind_some,if_neg (show ¬ (false=true) by decide)]
   rw [wrap_succ (by omega)]
   exact hr k (by omega)
theorem iContainsD (L:List S44) (hl:L.length≤1048576) (p:Nat→Int→Int→Int→Int→Int→List Int→Option Bool) (q:S44→Bool)
  (hp:∀ x ∈ L,Ev (fun k=>p k x.f0 x.f1 x.f2.f0 x.f2.f1 x.f2.f2 x.f3) (q x)):Ev (fun k=>slices_ContainsFunc_impl_Deal_impl_Deal.f k L (p k)) (L.any q):=by
 obtain ⟨K,hK⟩:=Ev.all (P:=fun k (x:S44)=>p k x.f0 x.f1 x.f2.f0 x.f2.f1 x.f2.f2 x.f3) L hp
 refine ⟨max K (L.length+1),fun k hk=>?_⟩
 obtain ⟨r,hr,hm⟩:=iIndexD L hl (p k) q (hK k (by omega)) 0 (by omega)
 unfold slices_ContainsFunc_impl_Deal_impl_Deal.f slices_IndexFunc_impl_Deal_impl_Deal.f
 show (slices_IndexFunc_impl_Deal_impl_Deal.l0 k L (p k) (L.length:Int) ((0:Nat):Int)).bind (fun t=>some (decide (t ≥ 0)))=some (L.any q)
 rw [hr k (by omega),Option.bind_some]
 congr 1
 rw [Bool.eq_iff_iff,decide_eq_true_eq]
 simpa using hm
theorem iDeals_ev (L:List S44) (hl:L.length≤1048576) (hx:∀ x ∈ L,x.f3.length≤1048576):Ev (fun k=>impl_DealsOk.f k L) (dealsOkM L):=by
 unfold impl_DealsOk.f dealsOkM
 by_cases h:(L.length:Int)≤200
 ·have h':L.length≤200:=by omega
  simp only [if_pos h]
  refine Ev.to (Ev.bind (iContainsD L hl (fun k z0 z1 z2 z3 z4 z5=>impl_DealsOk_1.f k z0 z1 z2 z3 z4 z5) (fun x=>!dealOkM x) ?_) (f:=fun _ t=>some (!t)) (Ev.now _)) ?_
  ·intro x hxm
   unfold impl_DealsOk_1.f
   exact Ev.bind (iDeal_ev x (hx x hxm)) (f:=fun _ t=>some (!t)) (Ev.now _)
  ·simp only [h',decide_true,Bool.true_and]
   rw [Bool.eq_iff_iff]
   simp
 ·refine Ev.to (Ev.now' fun k=>if_neg h) ?_
  have:¬ L.length≤200:=by omega
  simp [this]
def mineM (L:List S44) (id:Int):List S44:=L.filter (fun x=>decide (x.f0=id))
def cutM (L:List S44) (a b:Int):List S44:=(L.take b.toNat).drop a.toNat
def spanM (L:List S44) (a b:Int):Bool:=decide (0≤a∧a≤b∧b≤L.length) && dealsOkM L
theorem dealsOk_len {L:List S44} (h:dealsOkM L=true):L.length≤200:=by
 unfold dealsOkM at h;simp at h;exact h.1
theorem cut_len (L:List S44) (a b:Int):(cutM L a b).length≤L.length:=by
 unfold cutM;rw [List.length_drop,List.length_take];omega
theorem mine_len (L:List S44) (id:Int):(mineM L id).length≤L.length:=List.length_filter_le _ _
def addV (v:Int×Int×Int) (x:S44):Int×Int×Int:=(wrap64 (v.1+x.f2.f0),wrap64 (v.2.1+x.f2.f1),wrap64 (v.2.2+x.f2.f2))
def sumM (L:List S44):Int×Int×Int:=L.foldl addV (0,0,0)
theorem sSum_loop (L:List S44) (hl:L.length≤1048576):∀ n,n≤L.length→∀ v:Int×Int×Int,Ev (fun k=>spec_l19Sum.l0 k L (n:Int) v.1 v.2.1 v.2.2) ((L.drop n).foldl addV v):=by
 refine down ?_ ?_
 ·intro v
  refine Ev.next (f:=fun _=>some _) (Ev.now _) fun k=>?_
  simp only [spec_l19Sum.l0];rw [if_neg (by omega)];simp
 ·intro n hn ih v
  refine Ev.to (Ev.next (ih (addV v L[n])) fun k=>?_) (by rw [List.drop_eq_getElem_cons hn];rfl)
  simp only [spec_l19Sum.l0]
  rw [if_pos (by omega),if_pos (by omega),rdD_nat L n hn,wrap_succ (by omega)]
  rfl
theorem sSum_ev (L:List S44) (hl:L.length≤1048576):Ev (fun k=>spec_l19Sum.f k L) (sumM L):=by
 have:=sSum_loop L hl 0 (by omega) (0,0,0)
 simpa [spec_l19Sum.f,sumM] using this
theorem plus_eq (a b c d e f:Int):impl_Vec_plus.f a b c d e f=some (wrap64 (a+d),wrap64 (b+e),wrap64 (c+f)):=by
 simp [impl_Vec_plus.f,impl_both.f,impl_Vec_plus_1.f]
theorem iSum_loop (L:List S44) (hl:L.length≤1048576):∀ n,n≤L.length→∀ v:Int×Int×Int,Ev (fun k=>impl_taken.l0 k L (L.length:Int) (n:Int) v.1 v.2.1 v.2.2) ((L.drop n).foldl addV v):=by
 refine down ?_ ?_
 ·intro v
  refine Ev.next (f:=fun _=>some _) (Ev.now _) fun k=>?_
  simp only [impl_taken.l0];rw [if_neg (by omega)];simp
 ·intro n hn ih v
  refine Ev.to (Ev.next (ih (addV v L[n])) fun k=>?_) (by rw [List.drop_eq_getElem_cons hn];rfl)
  simp only [impl_taken.l0]
  rw [if_pos (by omega),if_pos (by omega),if_pos (by omega),rdD_nat L n hn,wrap_succ (by omega),plus_eq]
  rfl
theorem iSum_ev (L:List S44) (hl:L.length≤1048576):Ev (fun k=>impl_taken.f k L) (sumM L):=by
 have:=iSum_loop L hl 0 (by omega) (0,0,0)
 simpa [impl_taken.f,sumM] using this
theorem sMine_loop (L:List S44) (id:Int) (b:Nat) (hb:b≤L.length) (hl:L.length≤1048576):∀ n,n≤b→∀ acc:List S44,acc.length≤n→Ev (fun k=>spec_l19Mine.l0 k L id (b:Int) acc (n:Int)) (acc ++ mineM ((L.take b).drop n) id):=by
 refine down ?_ ?_
 ·intro acc ha
  refine Ev.next (f:=fun _=>some _) (Ev.now _) fun k=>?_
  simp only [spec_l19Mine.l0];rw [if_neg (by omega)];simp [mineM,List.drop_eq_nil_of_le]
 ·intro n hn ih acc ha
  have hn':n < L.length:=by omega
  have hd:(L.take b).drop n=L[n] :: (L.take b).drop (n+1):=by
   rw [List.drop_eq_getElem_cons (by rw [List.length_take];omega),List.getElem_take]
  by_cases h:L[n].f0=id
  ·refine Ev.to (Ev.next (ih (acc ++ [L[n]]) (by simp;omega)) fun k=>?_) (by rw [hd];simp [mineM,h])
   simp only [spec_l19Mine.l0]
   rw [if_pos (by omega),if_pos (by omega),if_pos (by omega),rdD_nat L n hn',if_pos h,if_pos (by omega),wrap_succ (by omega)]
  ·refine Ev.to (Ev.next (ih acc (by omega)) fun k=>?_) (by rw [hd];simp [mineM,h])
   simp only [spec_l19Mine.l0]
   rw [if_pos (by omega),if_pos (by omega),if_pos (by omega),rdD_nat L n hn',if_neg h,wrap_succ (by omega)]
theorem sMine_ev (L:List S44) (id a b:Int) (h0:0≤a) (h1:a≤b) (h2:b≤L.length) (hl:L.length≤1048576):Ev (fun k=>spec_l19Mine.f k L id a b) (mineM (cutM L a b) id):=by
 have:=sMine_loop L id b.toNat (by omega) hl a.toNat (by omega) [] (by simp)
 rw [show ((b.toNat:Nat):Int)=b by omega,show ((a.toNat:Nat):Int)=a by omega] at this
 simpa [spec_l19Mine.f,cutM] using this
theorem iMine_loop (L:List S44) (id:Int) (hl:L.length≤1048576):∀ n,n≤L.length→∀ acc:List S44,acc.length≤n→Ev (fun k=>impl_dealsOf.l0 k id acc L (L.length:Int) (n:Int)) (acc ++ mineM (L.drop n) id):=by
 refine down ?_ ?_
 ·intro acc ha
  refine Ev.next (f:=fun _=>some _) (Ev.now _) fun k=>?_
  simp only [impl_dealsOf.l0];rw [if_neg (by omega)];simp [mineM]
 ·intro n hn ih acc ha
  have hd:mineM (L.drop n) id=mineM (L[n] :: L.drop (n+1)) id:=by rw [← List.drop_eq_getElem_cons hn]
  by_cases h:L[n].f0=id
  ·refine Ev.to (Ev.next (ih (acc ++ [L[n]]) (by simp;omega)) fun k=>?_) (by rw [hd];unfold mineM;rw [List.filter_cons];simp only [h,decide_true,decide_false,if_true,List.append_assoc,List.singleton_append,if_neg (show ¬ (false=true) by decide)])
   simp only [impl_dealsOf.l0]
   rw [if_pos (by omega),if_pos (by omega),if_pos (by omega),rdD_nat L n hn,if_pos h,if_pos (by omega),wrap_succ (by omega)]
  ·refine Ev.to (Ev.next (ih acc (by omega)) fun k=>?_) (by rw [hd];unfold mineM;rw [List.filter_cons];simp only [h,decide_true,decide_false,if_true,List.append_assoc,List.singleton_append,if_neg (show ¬ (false=true) by decide)])
   simp only [impl_dealsOf.l0]
   rw [if_pos (by omega),if_pos (by omega),if_pos (by omega),rdD_nat L n hn,if_neg h,wrap_succ (by omega)]
theorem iMine_ev (L:List S44) (id:Int) (hl:L.length≤1048576):Ev (fun k=>impl_dealsOf.f k L id) (mineM L id):=by
 have:=iMine_loop L id hl 0 (by omega) [] (by simp)
 simpa [impl_dealsOf.f] using this
theorem sSpan_ev (L:List S44) (a b:Int) (hl:L.length≤1048576) (hx:∀ x ∈ L,x.f3.length≤1048576):Ev (fun k=>spec_l19Span.f k L a b) (spanM L a b):=by
 unfold spec_l19Span.f spanM
 by_cases h:0≤a∧a≤b∧b≤L.length
 ·simp only [if_pos (show a ≥ 0 by omega),if_pos (show a≤b by omega),if_pos (show b≤(L.length:Int) by omega),decide_eq_true h,Bool.true_and]
  exact Ev.bind (sDeals_ev L hl hx) (f:=fun _ t=>some t) (Ev.now _)
 ·refine Ev.now' fun k=>?_
  rw [decide_eq_false h,Bool.false_and]
  by_cases h1:a ≥ 0
  ·rw [if_pos h1]
   by_cases h2:a≤b
   ·rw [if_pos h2,if_neg (by omega)]
   ·rw [if_neg h2]
  ·rw [if_neg h1]
theorem iSpan_ev (L:List S44) (a b:Int) (hl:L.length≤1048576) (hx:∀ x ∈ L,x.f3.length≤1048576):Ev (fun k=>impl_span.f k L a b) (if spanM L a b=true then (cutM L a b,true) else ([],false)):=by
 unfold impl_span.f
 refine Ev.bind (iDeals_ev L hl hx) (Ev.now' fun k=>?_)
 unfold spanM cutM
 cases hd:dealsOkM L with
 | false=>simp
 | true =>
  by_cases h1:a < 0
  ·rw [if_pos rfl,if_pos h1];have:¬ (0≤a∧a≤b∧b≤L.length):=by omega
   simp [this]
  ·by_cases h2:a > b
   ·rw [if_pos rfl,if_neg h1,if_pos h2];have:¬ (0≤a∧a≤b∧b≤L.length):=by omega
    simp [this]
   ·by_cases h3:b > L.length
    ·rw [if_pos rfl,if_neg h1,if_neg h2,if_pos h3];have:¬ (0≤a∧a≤b∧b≤L.length):=by omega
     simp [this]
    ·rw [if_pos rfl,if_neg h1,if_neg h2,if_neg h3,if_pos (by omega),if_pos (by omega),if_pos (by omega)]
     have:0≤a∧a≤b∧b≤L.length:=by omega
     simp [this]
def addT (v:Int) (x:S44):Int:=wrap64 (v+mx (mx x.f2.f0 x.f2.f1) x.f2.f2)
def topsM (L:List S44):Int:=L.foldl addT 0
theorem iTops_loop (L:List S44) (hl:L.length≤1048576):∀ n,n≤L.length→∀ v:Int,Ev (fun k=>impl_Tops.l0 k v L (L.length:Int) (n:Int)) ((L.drop n).foldl addT v):=by
 refine down ?_ ?_
 ·intro v
  refine Ev.next (f:=fun _=>some _) (Ev.now _) fun k=>?_
  simp only [impl_Tops.l0];rw [if_neg (by omega)];simp
 ·intro n hn ih v
  refine Ev.to (Ev.next (ih (addT v L[n])) fun k=>?_) (by rw [List.drop_eq_getElem_cons hn];rfl)
  simp only [impl_Tops.l0]
  rw [if_pos (by omega),if_pos (by omega),if_pos (by omega),rdD_nat L n hn,wrap_succ (by omega)]
  rfl
theorem iTops_ev (L:List S44) (id a b:Int) (hl:L.length≤1048576) (hx:∀ x ∈ L,x.f3.length≤1048576):Ev (fun k=>impl_Tops.f k L id a b) (if spanM L a b=true then topsM (mineM (cutM L a b) id) else -1):=by
 unfold impl_Tops.f
 refine Ev.bind (iSpan_ev L a b hl hx) ?_
 cases h:spanM L a b with
 | false=>exact Ev.now' fun k=>by simp
 | true =>
  simp only [if_true]
  have:=mine_len (cutM L a b) id
  have:=cut_len L a b
  refine Ev.bind (iMine_ev (cutM L a b) id (by omega)) ?_
  simpa [topsM] using iTops_loop (mineM (cutM L a b) id) (by omega) 0 (by omega) 0
def mainX (r:Int) (x:S44):Bool:=decide (ar3 x.f2.f0 x.f2.f1 x.f2.f2 r=mx (mx x.f2.f0 x.f2.f1) x.f2.f2)
def mainAt (L:List S44) (r:Int):Bool:=decide (0 < L.length) && L.all (mainX r)
def mainsFrom (L:List S44) (r:Nat):List Int:=(([0,1,2]:List Int).drop r).filter (mainAt L)
def mainsM (L:List S44):List Int:=mainsFrom L 0
theorem mains_cons (L:List S44) (r:Nat) (hr:r < 3):mainsFrom L r=if mainAt L (r:Int)=true then (r:Int) :: mainsFrom L (r+1) else mainsFrom L (r+1):=by
 unfold mainsFrom
 rcases (show r=0∨r=1∨r=2 by omega) with rfl | rfl | rfl
 ·exact List.filter_cons
 ·exact List.filter_cons
 ·exact List.filter_cons
theorem mains_len (L:List S44):(mainsM L).length≤3:=List.length_filter_le _ _
theorem rd_three (a b c r:Int) (h0:0≤r) (h1:r < 3):rd [a,b,c] r=ar3 a b c r:=by
 rcases (show r=0∨r=1∨r=2 by omega) with rfl | rfl | rfl <;> rfl
theorem sMains_in (L:List S44) (hl:L.length≤1048576) (r:Nat) (hr:r < 3) (acc:List Int) (ha:acc.length≤r) (res:List Int)
  (h1:Ev (fun k=>spec_l19Mains.l0 k L (acc ++ [(r:Int)]) ((r+1:Nat):Int)) (acc ++ [(r:Int)] ++ res)) (h2:Ev (fun k=>spec_l19Mains.l0 k L acc ((r+1:Nat):Int)) (acc ++ res)):∀ n,n≤L.length→∀ b:Bool,
  Ev (fun k=>spec_l19Mains.l1 k L acc (r:Int) b (n:Int)) (acc ++ (if (b && (L.drop n).all (mainX r))=true then (r:Int) :: res else res)):=by
 refine down ?_ ?_
 ·intro b
  cases b with
  | true =>
   refine Ev.to (Ev.next h1 fun k=>?_) (by simp)
   simp only [spec_l19Mains.l1];rw [if_neg (by omega),if_pos (by first | rfl | trivial),if_pos (by omega),wrap_succ (by omega)]
  | false =>
   refine Ev.to (Ev.next h2 fun k=>?_) (by simp)
   simp only [spec_l19Mains.l1];rw [if_neg (by omega),if_neg (by decide),wrap_succ (by omega)]
 ·intro n hn ih b
  cases b with
  | true =>
   refine Ev.to (Ev.next (ih (mainX r L[n])) fun k=>?_) (by rw [all_drop hn];simp)
   simp only [spec_l19Mains.l1,spec_l13List.f,spec_VecTop.f]
   rw [if_pos (by omega),if_pos (by first | rfl | trivial),if_pos (by omega)]
   simp only [Option.bind_some]
   rw [if_pos (by omega),if_pos (by simp;omega),rdD_nat L n hn,rd_three _ _ _ _ (by omega) (by omega),wrap_succ (by omega)]
   rfl
  | false =>
   refine Ev.to (Ev.next (ih false) fun k=>?_) (by simp)
   simp only [spec_l19Mains.l1]
   rw [if_pos (by omega),if_neg (by decide),wrap_succ (by omega)]
theorem sMains_loop (L:List S44) (hl:L.length≤1048576):∀ r,r≤3→∀ acc:List Int,acc.length≤r→Ev (fun k=>spec_l19Mains.l0 k L acc (r:Int)) (acc ++ mainsFrom L r):=by
 refine down ?_ ?_
 ·intro acc ha
  refine Ev.to (Ev.next (Ev.next (f:=fun _=>some acc) (Ev.now _) (g:=fun k=>spec_l19Mains.j1 k L acc ((3:Nat):Int) false) fun k=>?_) fun k=>?_) (by simp [mainsFrom])
  ·simp only [spec_l19Mains.j1];rw [if_neg (by decide)]
  ·simp only [spec_l19Mains.l0];rw [if_neg (by omega)]
 ·intro r hr ih acc ha
  by_cases h0:0 < L.length
  ·have h1:=ih (acc ++ [(r:Int)]) (by simp;omega)
   have h2:=ih acc (by omega)
   have hin:=sMains_in L hl r hr acc ha _ h1 h2 0 (by omega) true
   refine Ev.to (Ev.next (Ev.next hin (g:=fun k=>spec_l19Mains.j1 k L acc (r:Int) true) fun k=>?_) fun k=>?_) ?_
   ·simp only [spec_l19Mains.j1];rw [if_pos (by first | rfl | trivial)];rfl
   ·simp only [spec_l19Mains.l0];rw [if_pos (by omega),decide_eq_true (show (L.length:Int) > 0 by omega)]
   ·rw [mains_cons L r hr];unfold mainAt;rw [decide_eq_true h0];simp
  ·have hm:∀ r,mainsFrom L r=[]:=by
    intro r;unfold mainsFrom;rw [List.filter_eq_nil_iff];intro a _;unfold mainAt;simp [h0]
   refine Ev.to (Ev.next (Ev.next (f:=fun _=>some acc) (Ev.now _) (g:=fun k=>spec_l19Mains.j1 k L acc (r:Int) false) fun k=>?_) fun k=>?_) (by rw [hm];simp)
   ·simp only [spec_l19Mains.j1];rw [if_neg (by decide)]
   ·simp only [spec_l19Mains.l0];rw [if_pos (by omega),decide_eq_false (show ¬ (L.length:Int) > 0 by omega)]
theorem sMains_ev (L:List S44) (hl:L.length≤1048576):Ev (fun k=>spec_l19Mains.f k L) (mainsM L):=by
 have:=sMains_loop L hl 0 (by omega) [] (by simp)
 simpa [spec_l19Mains.f,mainsM] using this
theorem iMains_loop (L:List S44) (hl:L.length≤1048576):∀ r,r≤3→∀ acc:List Int,acc.length≤r→Ev (fun k=>impl_mains.l0 k L acc (r:Int)) (acc ++ mainsFrom L r):=by
 refine down ?_ ?_
 ·intro acc ha
  refine Ev.to (Ev.next (f:=fun _=>some acc) (Ev.now _) fun k=>?_) (by simp [mainsFrom])
  simp only [impl_mains.l0];rw [if_neg (by omega)]
 ·intro r hr ih acc ha
  have h1:=ih (acc ++ [(r:Int)]) (by simp;omega)
  have h2:=ih acc (by omega)
  by_cases h0:0 < L.length
  ·have hc:Ev (fun k=>slices_ContainsFunc_impl_Deal_impl_Deal.f k L (fun z0_ z1_ z2_ z3_ z4_ z5_=>impl_mains_1.f z0_ z1_ z2_ z3_ z4_ z5_ (r:Int))) (L.any fun x=>!mainX r x):=by
    refine iContainsD L hl (fun _ z0_ z1_ z2_ z3_ z4_ z5_=>impl_mains_1.f z0_ z1_ z2_ z3_ z4_ z5_ (r:Int)) _ ?_
    intro x _
    refine Ev.now' fun k=>?_
    simp only [impl_mains_1.f,impl_Vec_on.f,impl_VecTop.f]
    rw [if_pos (by omega),if_pos (by omega)]
    rfl
   refine Ev.next (Ev.bind hc (f:=fun k t=>if t=true then impl_mains.l0 k L acc ((r+1:Nat):Int) else impl_mains.l0 k L (acc ++ [(r:Int)]) ((r+1:Nat):Int)) ?_) fun k=>?_
   ·rw [mains_cons L r hr]
    cases hm:mainAt L (r:Int) with
    | true =>
     have:(L.any fun x=>!mainX r x)=false:=by
      unfold mainAt at hm;simp only [Bool.and_eq_true] at hm
      rw [List.any_eq_false];intro x hx;simpa using (List.all_eq_true.1 hm.2) x hx
     rw [this]
     simpa using h1
    | false =>
     have:(L.any fun x=>!mainX r x)=true:=by
      unfold mainAt at hm;rw [decide_eq_true h0,Bool.true_and] at hm
      rw [← Bool.not_eq_false,← List.not_all_eq_any_not,hm];decide
     rw [this]
     simpa using h2
   ·simp only [impl_mains.l0]
    rw [if_pos (by omega),if_pos (by omega),wrap_succ (by omega)]
    simp only [if_pos (show acc.length < 17592186044416 by omega)]
  ·have hm:mainAt L (r:Int)=false:=by unfold mainAt;simp [h0]
   refine Ev.to (Ev.next h2 fun k=>?_) (by rw [mains_cons L r hr,hm];simp)
   simp only [impl_mains.l0]
   rw [if_pos (by omega),if_neg (by omega),wrap_succ (by omega)]
theorem iMains_ev (L:List S44) (hl:L.length≤1048576):Ev (fun k=>impl_mains.f k L) (mainsM L):=by
 have:=iMains_loop L hl 0 (by omega) [] (by simp)
 simpa [impl_mains.f,mainsM] using this
def Ch (x:S44):Prop:=(1≤x.f2.f0∧x.f2.f0≤2000)∧(1≤x.f2.f1∧x.f2.f1≤2000)∧(1≤x.f2.f2∧x.f2.f2≤2000)
theorem ch_of {L:List S44} (h:dealsOkM L=true):∀ x ∈ L,Ch x:=by
 intro x hx
 unfold dealsOkM at h
 rw [Bool.and_eq_true] at h
 have:=List.all_eq_true.1 h.2 x hx
 unfold dealOkM vFrom at this
 simp only [Bool.and_eq_true,decide_eq_true_eq] at this
 exact this.1.1.1
def sumI (f:S44→Int):List S44→Int
 | []=>0
 | x :: t=>f x+sumI f t
theorem sumI_append (f:S44→Int):∀ L M,sumI f (L ++ M)=sumI f L+sumI f M
 | [],M=>by simp [sumI]
 | x :: t,M=>by simp only [List.cons_append,sumI,sumI_append f t M];omega
theorem sumI_bound (f:S44→Int):∀ L:List S44,(∀ x ∈ L,0≤f x∧f x≤2000)→0≤sumI f L∧sumI f L≤2000 * (L.length:Int)
 | [],_=>by simp [sumI]
 | x :: t,h=>by
  have h1:=h x (List.mem_cons_self ..)
  have h2:=sumI_bound f t fun y hy=>h y (List.mem_cons_of_mem _ hy)
  simp only [sumI,List.length_cons]
  omega
theorem sumI_le (f g:S44→Int):∀ L:List S44,(∀ x ∈ L,f x≤g x)→sumI f L≤sumI g L
 | [],_=>by simp [sumI]
 | x :: t,h=>by
  have h1:=h x (List.mem_cons_self ..)
  have h2:=sumI_le f g t fun y hy=>h y (List.mem_cons_of_mem _ hy)
  simp only [sumI]
  omega
theorem sumI_eq (f g:S44→Int):∀ L:List S44,(∀ x ∈ L,f x=g x)→sumI f L=sumI g L
 | [],_=>by simp [sumI]
 | x :: t,h=>by
  simp only [sumI,h x (List.mem_cons_self ..),sumI_eq f g t fun y hy=>h y (List.mem_cons_of_mem _ hy)]
def cf0 (x:S44):Int:=x.f2.f0
def cf1 (x:S44):Int:=x.f2.f1
def cf2 (x:S44):Int:=x.f2.f2
def cft (x:S44):Int:=mx (mx x.f2.f0 x.f2.f1) x.f2.f2
theorem cft_ge (x:S44):cf0 x≤cft x∧cf1 x≤cft x∧cf2 x≤cft x:=by
 unfold cf0 cf1 cf2 cft mx
 split <;> split <;> omega
theorem cft_bd {x:S44} (h:Ch x):0≤cft x∧cft x≤2000:=by
 obtain ⟨h0,h1,h2⟩:=h
 unfold cft mx
 split <;> split <;> omega
theorem sum_fold:∀ (L:List S44) (v:Int×Int×Int),(∀ x ∈ L,Ch x)→(0≤v.1∧v.1+2000 * (L.length:Int)≤4000000000000)→(0≤v.2.1∧v.2.1+2000 * (L.length:Int)≤4000000000000)→(0≤v.2.2∧v.2.2+2000 * (L.length:Int)≤4000000000000)→L.foldl addV v=(v.1+sumI cf0 L,v.2.1+sumI cf1 L,v.2.2+sumI cf2 L)
 | [],v,_,_,_,_=>by simp [sumI]
 | x :: t,v,h,h0,h1,h2=>by
  obtain ⟨c0,c1,c2⟩:=h x (List.mem_cons_self ..)
  simp only [List.length_cons] at h0 h1 h2
  have e:addV v x=(v.1+x.f2.f0,v.2.1+x.f2.f1,v.2.2+x.f2.f2):=by
   unfold addV
   rw [wrap_id (by omega) (by omega),wrap_id (by omega) (by omega),wrap_id (by omega) (by omega)]
  rw [List.foldl_cons,e,sum_fold t _ (fun y hy=>h y (List.mem_cons_of_mem _ hy)) (by simp only;omega) (by simp only;omega) (by simp only;omega)]
  simp only [sumI,cf0,cf1,cf2,Prod.mk.injEq]
  omega
theorem tops_fold:∀ (L:List S44) (v:Int),(∀ x ∈ L,Ch x)→(0≤v∧v+2000 * (L.length:Int)≤4000000000000)→L.foldl addT v=v+sumI cft L
 | [],v,_,_=>by simp [sumI]
 | x :: t,v,h,h0=>by
  have hb:=cft_bd (h x (List.mem_cons_self ..))
  simp only [List.length_cons] at h0
  have e:addT v x=v+cft x:=by
   have:addT v x=wrap64 (v+cft x):=rfl
   rw [this,wrap_id (by omega) (by omega)]
  rw [List.foldl_cons,e,tops_fold t _ (fun y hy=>h y (List.mem_cons_of_mem _ hy)) (by omega)]
  simp only [sumI]
  omega
theorem sumM_eq {L:List S44} (h:∀ x ∈ L,Ch x) (hl:L.length≤200):sumM L=(sumI cf0 L,sumI cf1 L,sumI cf2 L):=by
 unfold sumM
 rw [sum_fold L (0,0,0) h (by simp only;omega) (by simp only;omega) (by simp only;omega)]
 simp
theorem topsM_eq {L:List S44} (h:∀ x ∈ L,Ch x) (hl:L.length≤200):topsM L=sumI cft L:=by
 unfold topsM
 rw [tops_fold L 0 h (by omega)]
 simp
theorem mine_cut (L:List S44) (id a m b:Int) (h0:0≤a) (h1:a≤m) (h2:m≤b):mineM (cutM L a b) id=mineM (cutM L a m) id ++ mineM (cutM L m b) id:=by
 unfold mineM
 rw [← List.filter_append]
 congr 1
 unfold cutM
 have e:L.take b.toNat=L.take m.toNat ++ (L.take b.toNat).drop m.toNat:=by
  have:=(List.take_append_drop m.toNat (L.take b.toNat)).symm
  rwa [List.take_take,Nat.min_eq_left (by omega)] at this
 by_cases hm:m.toNat≤L.length
 ·conv=>lhs;rw [e]
  rw [List.drop_append_of_le_length (by rw [List.length_take];omega)]
 ·rw [List.take_of_length_le (show L.length≤b.toNat by omega),List.take_of_length_le (show L.length≤m.toNat by omega),List.drop_eq_nil_of_le (show L.length≤m.toNat by omega),List.append_nil]
theorem mains_sum {L:List S44} (_h:∀ x ∈ L,Ch x) {j:Int} (hj:j ∈ mainsM L):sumI (fun x=>ar3 x.f2.f0 x.f2.f1 x.f2.f2 j) L=sumI cft L:=by
 unfold mainsM mainsFrom at hj
 have h2:=(List.mem_filter.1 hj).2
 unfold mainAt at h2
 rw [Bool.and_eq_true] at h2
 refine sumI_eq _ _ L fun x hx=>?_
 have:=List.all_eq_true.1 h2.2 x hx
 unfold mainX at this
 exact of_decide_eq_true this
def narrowM (a b c d:Int):Bool:=vFrom a b c 0 1000000000000 && (decide (0≤d∧d≤10000000) && decide (mx (mx a b) c - d≤a∧mx (mx a b) c - d≤b∧mx (mx a b) c - d≤c))
theorem mx_cases (a b:Int):(mx a b=a∧b≤a)∨(mx a b=b∧a < b):=by
 unfold mx;by_cases h:a < b
 ·rw [if_pos h];exact .inr ⟨rfl,h⟩
 ·rw [if_neg h];exact .inl ⟨rfl,by omega⟩
theorem mn_cases (a b:Int):(mn a b=a∧a≤b)∨(mn a b=b∧b < a):=by
 unfold mn;by_cases h:b < a
 ·rw [if_pos h];exact .inr ⟨rfl,h⟩
 ·rw [if_neg h];exact .inl ⟨rfl,by omega⟩
theorem sNarrow_eq (a b c d:Int):spec_Narrow.f a b c d=some (narrowM a b c d):=by
 unfold spec_Narrow.f spec_TagOk.f spec_l13Delta.f spec_VecTop.f narrowM
 simp only [sAll_eq,Option.bind_some]
 cases hv:vFrom a b c 0 1000000000000 with
 | false=>simp
 | true =>
  have hv':(0≤a∧a≤1000000000000)∧(0≤b∧b≤1000000000000)∧(0≤c∧c≤1000000000000):=by simpa [vFrom] using hv
  by_cases h1:d ≥ 0
  ·by_cases h2:d≤10000000
   ·have c1:=mx_cases a b
    have c2:=mx_cases (mx a b) c
    have c3:=mn_cases a b
    have c4:=mn_cases (mn a b) c
    have hw:wrap64 (mx (mx a b) c - d)=mx (mx a b) c - d:=wrap_id (by omega) (by omega)
    simp only [if_true,if_pos h1,Option.bind_some,h2,decide_true,hw,decide_eq_true (show 0≤d∧True from ⟨h1,trivial⟩),Bool.true_and]
    congr 1
    exact dec_iff (by omega)
   ·simp only [if_true,if_pos h1,Option.bind_some,decide_eq_false h2,decide_eq_false (show ¬ (0≤d∧d≤10000000) by omega),Bool.false_and,Bool.and_false,if_neg (show ¬ (false=true) by decide)]
  ·simp only [if_true,if_neg h1,Option.bind_some,decide_eq_false (show ¬ (0≤d∧d≤10000000) by omega),Bool.false_and,Bool.and_false,if_neg (show ¬ (false=true) by decide)]
theorem rdK_nat (l:List S83) (n:Nat) (h:n < l.length):rd_T83 l (n:Int)=l[n]:=by
 unfold rd_T83;rw [Int.toNat_natCast,getD_lt _ h]
abbrev topK (x : S83) : Int := mx (mx x.f3.f0 x.f3.f1) x.f3.f2
def kid1 (a:Int) (x:S83):Bool:=decide (0≤x.f0∧x.f0≤9999) && (decide (1≤x.f1∧x.f1≤10) && narrowM x.f3.f0 x.f3.f1 x.f3.f2 a)
def kid2 (t:Int) (x:S83):Bool:=decide (topK x≤wrap64 (t+wrap64 (stride x.f1 * 2000))) && (!x.f2 || decide (t≤topK x))
def ordAt (L:List S83) (n:Nat):Bool:=decide (n=0) || decide ((L.getD (n - 1) z83).f0 < (L.getD n z83).f0)
def kidAt (a t:Int) (L:List S83) (n:Nat):Bool:=kid1 a (L.getD n z83) && (kid2 t (L.getD n z83) && ordAt L n)
def kidsFrom (a t:Int) (L:List S83):Nat→Nat→Bool
 | 0,_=>true
 | d+1,n=>kidAt a t L n && kidsFrom a t L d (n+1)
def fairM (a b c d:Int) (L:List S83):Bool:=narrowM b c d a && (decide (mx (mx b c) d≤100000000000) && (decide (L.length≤48) && kidsFrom a (mx (mx b c) d) L L.length 0))
theorem sFair_j2 (a b c d:Int) (L:List S83) (n:Int) (x:S83) (r:Bool) (hr:Ev (fun k=>spec_FairOk.l0 k (wrap64 (n+1)) a b c d L) r) (t:Bool) :
  Ev (fun k=>spec_FairOk.j2 k n t a b c d L x.f0 x.f1 x.f2 x.f3.f0 x.f3.f1 x.f3.f2) (!t && (kid2 (mx (mx b c) d) x && r)):=by
 cases t with
 | true=>exact Ev.next (f:=fun _=>some false) (Ev.now _) fun k=>by simp [spec_FairOk.j2]
 | false =>
  by_cases h1:topK x > wrap64 (mx (mx b c) d+wrap64 (stride x.f1 * 2000))
  ·refine Ev.to (Ev.next (f:=fun _=>some false) (Ev.now _) fun k=>?_) ?_
   ·simp only [spec_FairOk.j2,spec_VecTop.f,sStride_eq,Option.bind_some];rw [if_neg (by decide),if_pos h1]
   ·unfold kid2;rw [decide_eq_false (by omega)];simp
  ·cases hb:x.f2 with
   | false =>
    refine Ev.to (Ev.next hr fun k=>?_) ?_
    ·simp only [spec_FairOk.j2,spec_VecTop.f,sStride_eq,Option.bind_some];rw [if_neg (by decide),if_neg h1,if_neg (by decide)]
    ·unfold kid2;rw [hb,decide_eq_true (by omega)];simp
   | true =>
    by_cases h2:topK x < mx (mx b c) d
    ·refine Ev.to (Ev.next (f:=fun _=>some false) (Ev.now _) fun k=>?_) ?_
     ·simp only [spec_FairOk.j2,spec_VecTop.f,sStride_eq,Option.bind_some];rw [if_neg (by decide),if_neg h1,if_pos trivial,if_pos h2]
     ·unfold kid2;rw [hb,decide_eq_false (show ¬ mx (mx b c) d≤topK x by omega)];simp
    ·refine Ev.to (Ev.next hr fun k=>?_) ?_
     ·simp only [spec_FairOk.j2,spec_VecTop.f,sStride_eq,Option.bind_some];rw [if_neg (by decide),if_neg h1,if_pos trivial,if_neg h2]
     ·unfold kid2;rw [hb,decide_eq_true (show mx (mx b c) d≤topK x by omega),decide_eq_true (show topK x≤_ by omega)];simp
theorem sFair_loop (a b c d:Int) (L:List S83) (hl:L.length≤1048576):∀ m n,n+m=L.length→Ev (fun k=>spec_FairOk.l0 k (n:Int) a b c d L) (kidsFrom a (mx (mx b c) d) L m n):=by
 intro m
 induction m with
 | zero =>
  intro n hn
  refine Ev.next (f:=fun _=>some _) (Ev.now _) fun k=>?_
  simp only [spec_FairOk.l0];rw [if_neg (by omega)];rfl
 | succ m ih =>
  intro n hn
  have hlt:n < L.length:=by omega
  have hg:L.getD n z83=L[n]:=getD_lt _ hlt
  have hr:=ih (n+1) (by omega)
  rw [show ((n+1:Nat):Int)=wrap64 ((n:Int)+1) from (wrap_succ (by omega)).symm] at hr
  have hj:=sFair_j2 a b c d L n L[n] _ hr
  simp only [kidsFrom,kidAt,hg,kid1]
  by_cases h1:L[n].f0 < 0
  ·refine Ev.to (Ev.next (hj true) fun k=>?_) (by rw [decide_eq_false (show ¬ (0≤L[n].f0∧L[n].f0≤9999) by omega)];simp)
   simp only [spec_FairOk.l0];rw [if_pos (by omega),if_pos (by omega),rdK_nat L n hlt,if_pos h1]
  by_cases h2:L[n].f0 > 9999
  ·refine Ev.to (Ev.next (hj true) fun k=>?_) (by rw [decide_eq_false (show ¬ (0≤L[n].f0∧L[n].f0≤9999) by omega)];simp)
   simp only [spec_FairOk.l0];rw [if_pos (by omega),if_pos (by omega),rdK_nat L n hlt,if_neg h1,if_pos h2]
  rw [decide_eq_true (show 0≤L[n].f0∧L[n].f0≤9999 by omega)]
  have hcom:Ev (fun k=>(spec_Stride.f L[n].f1).bind fun t148=>if t148=0 then spec_FairOk.j2 k (n:Int) true a b c d L L[n].f0 L[n].f1 L[n].f2 L[n].f3.f0 L[n].f3.f1 L[n].f3.f2 else (spec_Narrow.f L[n].f3.f0 L[n].f3.f1 L[n].f3.f2 a).bind fun t149=>spec_FairOk.j2 k (n:Int) (!t149) a b c d L L[n].f0 L[n].f1 L[n].f2 L[n].f3.f0 L[n].f3.f1 L[n].f3.f2)
    (decide (1≤L[n].f1∧L[n].f1≤10) && (narrowM L[n].f3.f0 L[n].f3.f1 L[n].f3.f2 a && (kid2 (mx (mx b c) d) L[n] && kidsFrom a (mx (mx b c) d) L m (n+1)))):=by
   simp only [sStride_eq,sNarrow_eq,Option.bind_some]
   by_cases hw:1≤L[n].f1∧L[n].f1≤10
   ·simp only [if_neg (show ¬ stride L[n].f1=0 from fun h=>(stride_zero _).1 h hw),decide_eq_true hw]
    exact Ev.to (hj _) (by simp)
   ·simp only [if_pos ((stride_zero _).2 hw),decide_eq_false hw]
    exact Ev.to (hj true) (by simp)
  by_cases h0:n=0
  ·subst h0
   refine Ev.to (Ev.next hcom fun k=>?_) (by unfold ordAt;simp [Bool.and_assoc])
   simp only [spec_FairOk.l0];rw [if_pos (by omega),if_pos (by omega),rdK_nat L 0 hlt,if_neg h1,if_neg h2,if_neg (by omega)]
  ·have hp:L.getD (n - 1) z83=L[n - 1]:=getD_lt _ (by omega)
   by_cases h3:L[n - 1].f0 ≥ L[n].f0
   ·refine Ev.to (Ev.next (hj true) fun k=>?_) (by unfold ordAt;rw [hp,hg,decide_eq_false h0,decide_eq_false (show ¬ L[n - 1].f0 < L[n].f0 by omega)];simp)
    simp only [spec_FairOk.l0];rw [if_pos (by omega),if_pos (by omega),rdK_nat L n hlt,if_neg h1,if_neg h2,if_pos (by omega),wrap_pred (by omega) (by omega),if_pos (by omega),if_pos (by omega),rdK_nat L (n - 1) (by omega),if_pos h3]
   ·refine Ev.to (Ev.next hcom fun k=>?_) (by unfold ordAt;rw [hp,hg,decide_eq_true (show L[n - 1].f0 < L[n].f0 by omega)];simp [Bool.and_assoc])
    simp only [spec_FairOk.l0];rw [if_pos (by omega),if_pos (by omega),rdK_nat L n hlt,if_neg h1,if_neg h2,if_pos (by omega),wrap_pred (by omega) (by omega),if_pos (by omega),if_pos (by omega),rdK_nat L (n - 1) (by omega),if_neg h3]
theorem sFair_ev (a b c d:Int) (L:List S83) (hl:L.length≤1048576):Ev (fun k=>spec_FairOk.f k a b c d L) (fairM a b c d L):=by
 have hj:∀ t:Bool,Ev (fun k=>spec_FairOk.j0 k t a b c d L) (!t && kidsFrom a (mx (mx b c) d) L L.length 0):=by
  intro t
  cases t with
  | true=>exact Ev.next (f:=fun _=>some false) (Ev.now _) fun k=>by simp [spec_FairOk.j0]
  | false=>exact Ev.to (Ev.next (sFair_loop a b c d L hl L.length 0 (by omega)) fun k=>by simp [spec_FairOk.j0]) (by simp)
 unfold spec_FairOk.f fairM
 simp only [sNarrow_eq,spec_VecTop.f,Option.bind_some]
 cases narrowM b c d a with
 | false=>exact Ev.to (hj true) (by simp)
 | true =>
  simp only [if_true]
  by_cases h:mx (mx b c) d > 100000000000
  ·simp only [if_pos h];exact Ev.to (hj true) (by rw [decide_eq_false (show ¬ mx (mx b c) d≤100000000000 by omega)];simp)
  ·simp only [if_neg h]
   refine Ev.to (hj _) ?_
   rw [decide_eq_true (show mx (mx b c) d≤100000000000 by omega)]
   by_cases h2:L.length≤48
   ·rw [decide_eq_false (show ¬ (L.length:Int) > 48 by omega),decide_eq_true h2];simp
   ·rw [decide_eq_true (show (L.length:Int) > 48 by omega),decide_eq_false h2];simp
def pickStep (L:List S83) (b:Int) (n:Nat):Int:=if (L.getD n z83).f2=true then (if b < 0 then (n:Int) else if topK (L.getD n z83) < topK (rd_T83 L b) then (n:Int) else b) else b
def pickFrom (L:List S83):Nat→Nat→Int→Int
 | 0,_,b=>b
 | d+1,n,b=>pickFrom L d (n+1) (pickStep L b n)
def pickM (L:List S83):Int:=pickFrom L L.length 0 (-1)
theorem pickStep_lt {L:List S83} {b:Int} {n:Nat} (hb:b < L.length) (hn:n < L.length):pickStep L b n < L.length:=by
 unfold pickStep;repeat' split
 all_goals omega
theorem pickStep_le {L:List S83} {b:Int} {n:Nat} (hb:-1≤b):-1≤pickStep L b n:=by
 unfold pickStep;repeat' split
 all_goals omega
theorem pickFrom_bd {L:List S83}:∀ m n b,n+m=L.length→-1≤b→b < (L.length:Int)→-1≤pickFrom L m n b∧pickFrom L m n b < L.length:=by
 intro m
 induction m with
 | zero=>intro n b hn h0 h1;exact ⟨h0,h1⟩
 | succ m ih=>intro n b hn h0 h1;exact ih (n+1) _ (by omega) (pickStep_le h0) (pickStep_lt h1 (by omega))
theorem pickM_bd (L:List S83):-1≤pickM L∧pickM L < L.length∨L.length=0∧pickM L=-1:=by
 by_cases h:L.length=0
 ·right;unfold pickM;rw [h];exact ⟨rfl,rfl⟩
 ·left;exact pickFrom_bd L.length 0 (-1) (by omega) (by omega) (by omega)
theorem sBusyIds_loop (a b c d:Int) (L:List S83) (hl:L.length≤1048576):∀ n,n≤L.length→∀ acc:List Int,acc.length≤n→Ev (fun k=>spec_l19Busy.l0 k acc (n:Int) a b c d L) (acc ++ ((L.drop n).filter (fun x=>x.f2)).map (fun x=>x.f0)):=by
 refine down ?_ ?_
 ·intro acc ha
  refine Ev.to (Ev.next (f:=fun _=>some acc) (Ev.now _) fun k=>?_) (by simp)
  simp only [spec_l19Busy.l0];rw [if_neg (by omega)]
 ·intro n hn ih acc ha
  rw [List.drop_eq_getElem_cons hn,List.filter_cons]
  cases hf:L[n].f2 with
  | false =>
   refine Ev.to (Ev.next (ih acc (by omega)) fun k=>?_) (by simp)
   simp only [spec_l19Busy.l0]
   rw [if_pos (by omega),if_pos (by omega),rdK_nat L n hn,hf,if_neg (by decide),wrap_succ (by omega)]
  | true =>
   refine Ev.to (Ev.next (ih (acc ++ [L[n].f0]) (by simp;omega)) fun k=>?_) (by simp)
   simp only [spec_l19Busy.l0]
   rw [if_pos (by omega),if_pos (by omega),rdK_nat L n hn,hf,if_pos rfl,if_pos (by omega),wrap_succ (by omega)]
theorem sBusyIds_ev (a b c d:Int) (L:List S83) (hl:L.length≤1048576):Ev (fun k=>spec_l19Busy.f k a b c d L) ((L.filter (fun x=>x.f2)).map (fun x=>x.f0)):=by
 have:=sBusyIds_loop a b c d L hl 0 (by omega) [] (by simp)
 simpa [spec_l19Busy.f] using this
theorem kidsFrom_at {a t:Int} {L:List S83}:∀ m n,n+m=L.length→kidsFrom a t L m n=true→∀ i,n≤i→i < L.length→kidAt a t L i=true:=by
 intro m
 induction m with
 | zero=>intro n hn _ i h1 h2;omega
 | succ m ih =>
  intro n hn h i h1 h2
  rw [kidsFrom,Bool.and_eq_true] at h
  by_cases e:i=n
  ·subst e;exact h.1
  ·exact ih (n+1) (by omega) h.2 i (by omega) h2
theorem incr_lt {L:List S83} (hs:∀ n (hn:n+1 < L.length),(L[n]'(by omega)).f0 < L[n+1].f0):∀ m j (h:j+m+1 < L.length),(L[j]'(by omega)).f0 < L[j+m+1].f0:=by
 intro m
 induction m with
 | zero=>intro j h;exact hs j h
 | succ m ih =>
  intro j h
  have h1:=ih j (by omega)
  have h2:=hs (j+m+1) h
  show _ < L[j+m+1+1].f0
  omega
theorem fair_at {a b c d:Int} {L:List S83} (h:fairM a b c d L=true) {i:Nat} (hi:i < L.length):0≤L[i].f0∧∀ j (hj:j < i),(L[j]'(by omega)).f0 < L[i].f0:=by
 unfold fairM at h
 simp only [Bool.and_eq_true] at h
 have hk:=kidsFrom_at L.length 0 (by omega) h.2.2.2
 have hg:∀ n (hn:n < L.length),L.getD n z83=L[n]:=fun n hn=>getD_lt _ hn
 have h0:∀ n (hn:n < L.length),0≤L[n].f0:=by
  intro n hn
  have:=hk n (by omega) hn
  unfold kidAt kid1 at this
  rw [hg n hn] at this
  simp only [Bool.and_eq_true,decide_eq_true_eq] at this
  exact this.1.1.1
 have hs:∀ n (hn:n+1 < L.length),(L[n]'(by omega)).f0 < L[n+1].f0:=by
  intro n hn
  have:=hk (n+1) (by omega) hn
  unfold kidAt ordAt at this
  rw [hg (n+1) hn,show n+1 - 1=n from rfl,hg n (by omega)] at this
  simp only [Bool.and_eq_true,Bool.or_eq_true,decide_eq_true_eq] at this
  rcases this.2.2 with h | h
  ·omega
  ·exact h
 refine ⟨h0 i hi,fun j hj=>?_⟩
 obtain ⟨m,rfl⟩:∃ m,i=j+m+1:=⟨i - j - 1,by omega⟩
 exact incr_lt hs m j hi
theorem set_mid {α:Type} (p t:List α) (x v:α):(p ++ x :: t).set p.length v=p ++ v :: t:=by
 rw [List.set_append_right _ _ (by omega),Nat.sub_self];rfl
theorem rdK_mid (p t:List S83) (x:S83):rd_T83 (p ++ x :: t) (p.length:Int)=x:=by
 rw [rdK_nat _ p.length (by simp)];simp
def idI (id:Int):List Int→Nat→Int
 | [],_=>-1
 | x :: t,n=>if x=id then (n:Int) else idI id t (n+1)
theorem idI_cases (id:Int):∀ (l:List Int) (n:Nat),idI id l n=-1∨∃ j,n≤j∧j < n+l.length∧idI id l n=(j:Int)
 | [],n=>.inl rfl
 | x :: t,n=>by
  unfold idI
  by_cases h:x=id
  ·rw [if_pos h];exact .inr ⟨n,by omega,by simp <;> omega,rfl⟩
  ·rw [if_neg h]
   rcases idI_cases id t (n+1) with e | ⟨j,h1,h2,e⟩
   ·exact .inl e
   ·exact .inr ⟨j,by omega,by simp <;> omega,e⟩
def atK (id:Int) (K:List S83):Int:=idI id (K.map (fun x=>x.f0)) 0
theorem atK_cases (id:Int) (K:List S83):atK id K=-1∨∃ j:Nat,j < K.length∧atK id K=(j:Int):=by
 rcases idI_cases id (K.map (fun x=>x.f0)) 0 with e | ⟨j,_,h,e⟩
 ·exact .inl e
 ·exact .inr ⟨j,by simpa using h,e⟩
def zF:S59:=⟨0,⟨0,0,0⟩,[]⟩
theorem sAtK_loop (id a b c d:Int) (K:List S83) (hl:K.length≤1048576):∀ n,n≤K.length→Ev (fun k=>spec_l18At.l0 k id (n:Int) a b c d K) (idI id ((K.drop n).map (fun x=>x.f0)) n):=by
 refine down ?_ ?_
 ·refine Ev.to (Ev.next (f:=fun _=>some (-1)) (Ev.now _) fun k=>?_) (by simp [idI])
  simp only [spec_l18At.l0];rw [if_neg (by omega)]
 ·intro n hn ih
  rw [List.drop_eq_getElem_cons hn,List.map_cons]
  by_cases h:K[n].f0=id
  ·refine Ev.to (Ev.next (f:=fun _=>some (n:Int)) (Ev.now _) fun k=>?_) (by simp [idI,h])
   simp only [spec_l18At.l0];rw [if_pos (by omega),if_pos (by omega),rdK_nat K n hn,if_pos h]
  ·refine Ev.to (Ev.next ih fun k=>?_) (by simp [idI,h])
   simp only [spec_l18At.l0];rw [if_pos (by omega),if_pos (by omega),rdK_nat K n hn,if_neg h,wrap_succ (by omega)]
theorem sAtK_ev (id a b c d:Int) (K:List S83) (hl:K.length≤1048576):Ev (fun k=>spec_l18At.f k a b c d K id) (atK id K):=by
 have h:=sAtK_loop id a b c d K hl 0 (by omega)
 simpa [spec_l18At.f,atK] using h
def kidNew (id w:Int):S83:=⟨id,w,false,⟨0,0,0⟩⟩
def posK (id:Int):List S83→Nat
 | []=>0
 | x :: t=>if x.f0 < id then posK id t+1 else 0
theorem posK_le (id:Int):∀ K:List S83,posK id K≤K.length
 | []=>by simp [posK]
 | x :: t=>by
  have:=posK_le id t
  unfold posK
  split <;> simp <;> omega
theorem posK_lt (id:Int):∀ (K:List S83) (i:Nat) (_:i < posK id K) (hi:i < K.length),K[i].f0 < id
 | x :: t,i,h,hi=>by
  unfold posK at h
  split at h
  ·cases i with
   | zero=>simpa
   | succ i=>simpa using posK_lt id t i (by omega) (by simpa using hi)
  ·omega
theorem posK_at (id:Int):∀ (K:List S83) (hi:posK id K < K.length),¬ K[posK id K].f0 < id
 | x :: t,hi=>by
  by_cases h:x.f0 < id
  ·have e:posK id (x :: t)=posK id t+1:=by simp [posK,h]
   have:=posK_at id t (by rw [e] at hi;simpa using hi)
   simp only [e,List.getElem_cons_succ]
   exact this
  ·have e:posK id (x :: t)=0:=by simp [posK,h]
   simpa [e] using h
def joinK (id w:Int) (K:List S83):List S83:=K.take (posK id K) ++ ([kidNew id w] ++ K.drop (posK id K))
def joinF (a b c d:Int) (K:List S83) (id w:Int):S59×Int :=
 if fairM a b c d K=true then (if 0≤id∧id≤9999 then (if 1≤w∧w≤10 then (if atK id K ≥ 0 then (zF,2) else if (K.length:Int)=48 then (zF,3) else (⟨a,⟨b,c,d⟩,joinK id w K⟩,0)) else (zF,1)) else (zF,1)) else (zF,1)
def joinT (x:S59×Int):Int×Int×Int×Int×List S83×Int:=(x.1.f0,x.1.f1.f0,x.1.f1.f1,x.1.f1.f2,x.1.f2,x.2)
theorem fair_len {a b c d:Int} {K:List S83} (h:fairM a b c d K=true):K.length≤48:=by
 unfold fairM at h
 simp only [Bool.and_eq_true,decide_eq_true_eq] at h
 exact h.2.2.1
theorem joinK_len (id w:Int) (K:List S83):(joinK id w K).length=K.length+1:=by
 have:=posK_le id K
 simp [joinK];omega
theorem joinF_len (a b c d:Int) (K:List S83) (id w:Int):(joinF a b c d K id w).1.f2.length≤1048576:=by
 unfold joinF
 by_cases hM:fairM a b c d K=true
 ·rw [if_pos hM]
  have:=fair_len hM
  repeat' split
  all_goals first | (simp [zF];done) | (simp only [joinK_len];omega)
 ·rw [if_neg hM];simp [zF]
theorem idI_neg (id:Int):∀ (l:List Int) (n:Nat),¬ (idI id l n ≥ 0)→∀ x ∈ l,x≠id
 | [],_,_,x,hx=>by simp at hx
 | y :: t,n,h,x,hx=>by
  unfold idI at h
  by_cases e:y=id
  ·rw [if_pos e] at h;omega
  ·rw [if_neg e] at h
   rcases List.mem_cons.1 hx with rfl | hx
   ·exact e
   ·exact idI_neg id t (n+1) h x hx
theorem atK_neg {id:Int} {K:List S83} (h:¬ (atK id K ≥ 0)) (i:Nat) (hi:i < K.length):K[i].f0≠id :=
 idI_neg id _ 0 h _ (List.mem_map_of_mem (List.getElem_mem hi))
theorem posK_gt {a b c d:Int} {K:List S83} (hM:fairM a b c d K=true) {id:Int} (hn:¬ (atK id K ≥ 0)) {i:Nat} (hp:posK id K≤i) (hi:i < K.length):K[i].f0 > id:=by
 have h1:=posK_at id K (by omega)
 have h2:=atK_neg hn i hi
 rcases Nat.eq_or_lt_of_le hp with e | h
 ·subst e;omega
 ·have:=(fair_at hM hi).2 _ h;omega
def accJ (id w:Int) (K:List S83) (n:Nat):List S83:=if n≤posK id K then K.take n else K.take (posK id K) ++ ([kidNew id w] ++ (K.drop (posK id K)).take (n - posK id K))
theorem accJ_len (id w:Int) (K:List S83) (n:Nat) (hn:n≤K.length):(accJ id w K n).length=if n≤posK id K then n else n+1:=by
 have:=posK_le id K
 unfold accJ
 split <;> simp <;> omega
theorem sJoin_loop (id w a b c d:Int) (K:List S83) (hl:K.length≤48) (hM:fairM a b c d K=true) (hid:¬ (atK id K ≥ 0)):∀ n,n≤K.length→Ev (fun k=>spec_FairJoin.l0 k id (n:Int) a b c d K a b c d (accJ id w K n) id w false 0 0 0) (a,b,c,d,joinK id w K,0):=by
 have hp:=posK_le id K
 refine down ?_ ?_
 ·refine Ev.next (f:=fun _=>some (a,b,c,d,joinK id w K,0)) (Ev.now _) fun k=>?_
  have hal:=accJ_len id w K K.length (Nat.le_refl _)
  simp only [spec_FairJoin.l0]
  rw [if_neg (by omega)]
  by_cases e:K.length≤posK id K
  ·rw [if_pos e] at hal
   rw [if_pos (by omega),if_pos (by omega)]
   have e2:posK id K=K.length:=by omega
   simp [accJ,joinK,e2,kidNew]
  ·rw [if_neg e] at hal
   rw [if_neg (by omega)]
   have e2:(K.drop (posK id K)).take (K.length - posK id K)=K.drop (posK id K):=List.take_of_length_le (by simp)
   simp [accJ,joinK,e,e2]
 ·intro n hn ih
  have hal:=accJ_len id w K n (by omega)
  have hlt:(accJ id w K n).length < 2932031007402:=by rw [hal];split <;> omega
  rcases Nat.lt_trichotomy n (posK id K) with h | h | h
  ·have e:accJ id w K (n+1)=accJ id w K n ++ [K[n]]:=by
    simp only [accJ,if_pos (show n≤posK id K by omega),if_pos (show n+1≤posK id K by omega),List.take_append_getElem hn]
   refine Ev.next ih fun k=>?_
   have h1:=posK_lt id K n h hn
   simp only [spec_FairJoin.l0]
   rw [if_pos (by omega),if_pos (by omega),rdK_nat K n hn,if_neg (by omega),if_pos hlt,wrap_succ (by omega),e]
  ·have h1:=posK_gt hM hid (Nat.le_of_eq h.symm) hn
   have e:accJ id w K (n+1)=(accJ id w K n ++ [kidNew id w]) ++ [K[n]]:=by
    have e0:posK id K=n:=h.symm
    simp only [accJ,e0,if_pos (Nat.le_refl n),if_neg (show ¬ n+1≤n by omega),show n+1 - n=1 by omega]
    simp
    rw [List.drop_eq_getElem_cons hn,List.take_succ_cons,List.take_zero]
   have hl2:(accJ id w K n ++ [(⟨id,w,false,(⟨0,0,0⟩:S29)⟩:S83)]).length < 2932031007402:=by rw [List.length_append,hal,if_pos (by omega)];simp;omega
   refine Ev.next ih fun k=>?_
   simp only [spec_FairJoin.l0]
   rw [if_pos (by omega),if_pos (by omega),rdK_nat K n hn,if_pos h1]
   by_cases h0:n=0
   ·rw [if_pos (by omega),if_pos hlt,Option.bind_some,if_pos hl2,wrap_succ (by omega),e]
    rfl
   ·have h2:=posK_lt id K (n - 1) (by omega) (by omega)
    rw [if_neg (by omega),wrap_pred (by omega) (by omega),if_pos (by omega),if_pos (by omega),rdK_nat K (n - 1) (by omega),if_pos h2,if_pos hlt,Option.bind_some,if_pos hl2,wrap_succ (by omega),e]
    rfl
  ·have h1:=posK_gt hM hid (Nat.le_of_lt h) hn
   have h2:=posK_gt hM hid (show posK id K≤n - 1 by omega) (show n - 1 < K.length by omega)
   have e:accJ id w K (n+1)=accJ id w K n ++ [K[n]]:=by
    simp only [accJ,if_neg (show ¬ n≤posK id K by omega),if_neg (show ¬ n+1≤posK id K by omega),show n+1 - posK id K=(n - posK id K)+1 by omega]
    rw [List.take_add_one,List.getElem?_drop,show posK id K+(n - posK id K)=n by omega,List.getElem?_eq_getElem hn]
    simp
   refine Ev.next ih fun k=>?_
   simp only [spec_FairJoin.l0]
   rw [if_pos (by omega),if_pos (by omega),rdK_nat K n hn,if_pos h1,if_neg (by omega),wrap_pred (by omega) (by omega),if_pos (by omega),if_pos (by omega),rdK_nat K (n - 1) (by omega),if_neg (by omega),if_pos hlt,wrap_succ (by omega),e]
theorem sJoin_ev (a b c d:Int) (K:List S83) (hl:K.length≤1048576) (id w:Int):Ev (fun k=>spec_FairJoin.f k a b c d K id w) (joinT (joinF a b c d K id w)):=by
 have hbad:Ev (fun k=>spec_FairJoin.j0 k id w true a b c d K) (0,0,0,0,[],1):=Ev.next (f:=fun _=>some (0,0,0,0,[],1)) (Ev.now _) fun k=>by simp only [spec_FairJoin.j0,if_true]
 unfold spec_FairJoin.f joinF
 refine Ev.bind (sFair_ev a b c d K hl) ?_
 cases hM:fairM a b c d K with
 | false=>exact Ev.to hbad (by simp [joinT,zF])
 | true =>
  simp only [if_true]
  have h48:=fair_len hM
  by_cases h1:0≤id∧id≤9999
  ·simp only [if_neg (show ¬ id < 0 by omega),if_neg (show ¬ id > 9999 by omega),sStride_eq,Option.bind_some,if_pos h1]
   by_cases h3:1≤w∧w≤10
   ·have h4:(stride w == 0)=false:=beq_eq_false_iff_ne.2 fun e=>absurd h3 ((stride_zero w).1 e)
    rw [h4,if_pos h3]
    refine Ev.next (f:=fun k=>(spec_l18At.f k a b c d K id).bind fun t=>if t ≥ 0 then some (0,0,0,0,[],2) else if (K.length:Int)=48 then some (0,0,0,0,[],3) else spec_FairJoin.l0 k id 0 a b c d K a b c d [] id w false 0 0 0) ?_ fun k=>by simp only [spec_FairJoin.j0,if_neg (show ¬ (false=true) by decide)]
    refine Ev.bind (sAtK_ev id a b c d K hl) ?_
    by_cases h5:atK id K ≥ 0
    ·simp only [if_pos h5];exact Ev.now' fun k=>by simp [joinT,zF]
    ·simp only [if_neg h5]
     by_cases h6:(K.length:Int)=48
     ·simp only [if_pos h6];exact Ev.now' fun k=>by simp [joinT,zF]
     ·simp only [if_neg h6]
      have:=sJoin_loop id w a b c d K h48 hM h5 0 (by omega)
      simpa [accJ,joinT] using this
   ·have h4:(stride w == 0)=true:=beq_iff_eq.2 ((stride_zero w).2 h3)
    rw [h4,if_neg h3]
    exact Ev.to hbad (by simp [joinT,zF])
  ·rw [if_neg h1]
   by_cases h2:id < 0
   ·simp only [if_pos h2];exact Ev.to hbad (by simp [joinT,zF])
   ·simp only [if_neg h2,if_pos (show id > 9999 by omega)];exact Ev.to hbad (by simp [joinT,zF])
def owesK (b c d:Int) (x:S83):Bool:=x.f2 || (!(mx x.f3.f0 b == b) || (!(mx x.f3.f1 c == c) || (!(mx x.f3.f2 d == d))))
def leaveF (a b c d:Int) (K:List S83) (id:Int):S59×Int :=
 if fairM a b c d K=true then (if atK id K < 0 then (zF,4) else if owesK b c d (rd_T83 K (atK id K))=true then (zF,5) else (⟨a,⟨b,c,d⟩,K.eraseIdx (atK id K).toNat⟩,0)) else (zF,1)
def leaveT (x:S59×Int):Int×Int×Int×Int×List S83×Int:=(x.1.f0,x.1.f1.f0,x.1.f1.f1,x.1.f1.f2,x.1.f2,x.2)
theorem leaveF_len (a b c d:Int) (K:List S83) (id:Int):(leaveF a b c d K id).1.f2.length≤K.length:=by
 unfold leaveF zF
 split
 ·split
  ·simp
  ·split
   ·simp
   ·exact List.length_eraseIdx_le ..
 ·simp
theorem idI_at (id:Int):∀ (l:List Int) (n j:Nat),n≤j→idI id l n=(j:Int)→l[j - n]?=some id
 | [],n,j,_,h=>by unfold idI at h;omega
 | x :: t,n,j,hj,h=>by
  unfold idI at h
  by_cases e:x=id
  ·rw [if_pos e] at h
   have:j=n:=by omega
   subst this
   simp [e]
  ·rw [if_neg e] at h
   rcases idI_cases id t (n+1) with e2 | ⟨q,h1,_,e2⟩
   ·omega
   ·have hq:q=j:=by omega
    subst hq
    have:=idI_at id t (n+1) q h1 h
    rw [show q - n=(q - (n+1))+1 by omega,List.getElem?_cons_succ]
    exact this
theorem atK_at {id:Int} {K:List S83} {j:Nat} (hj:j < K.length) (h:atK id K=(j:Int)):K[j].f0=id:=by
 have:=idI_at id _ 0 j (by omega) h
 rw [Nat.sub_zero,List.getElem?_map,List.getElem?_eq_getElem hj] at this
 simpa using this
theorem filter_erase {α:Type} (p:α→Bool):∀ (l:List α) (j:Nat) (hj:j < l.length),p l[j]=false→(∀ i (hi:i < l.length),i≠j→p l[i]=true)→l.filter p=l.eraseIdx j
 | x :: t,0,_,h,hh=>by
  rw [List.getElem_cons_zero] at h
  rw [List.filter_cons_of_neg (by simp [h]),List.eraseIdx_zero,List.tail_cons]
  refine List.filter_eq_self.2 fun y hy=>?_
  obtain ⟨i,hi,rfl⟩:=List.mem_iff_getElem.1 hy
  have:=hh (i+1) (by simpa using hi) (by omega)
  simpa using this
 | x :: t,j+1,hj,h,hh=>by
  have h0:=hh 0 (by simp) (by omega)
  rw [List.getElem_cons_zero] at h0
  rw [List.filter_cons_of_pos h0,List.eraseIdx_cons_succ]
  congr 1
  refine filter_erase p t j (by simpa using hj) (by simpa using h) fun i hi hne=>?_
  have:=hh (i+1) (by simpa using hi) (by omega)
  simpa using this
theorem kids_erase {a b c d:Int} {K:List S83} (h:fairM a b c d K=true) {id:Int} {j:Nat} (hj:j < K.length) (e:atK id K=(j:Int)):K.filter (fun x=>!decide (x.f0=id))=K.eraseIdx j:=by
 have hid:=atK_at hj e
 refine filter_erase _ K j hj (by simp [hid]) fun i hi hne=>?_
 have:K[i].f0≠id:=by
  rw [← hid]
  rcases Nat.lt_or_gt_of_ne hne with h2 | h2
  ·have:=(fair_at h hj).2 i h2;omega
  ·have:=(fair_at h hi).2 j h2;omega
 simp [this]
theorem sWithout_loop (id a b c d a' b' c' d':Int) (K:List S83) (hl:K.length≤1048576):∀ n,n≤K.length→∀ acc:List S83,acc.length≤n→Ev (fun k=>spec_l18Without.l0 k id (n:Int) a b c d K a' b' c' d' acc) (a',b',c',d',acc ++ (K.drop n).filter (fun x=>!decide (x.f0=id))):=by
 refine down ?_ ?_
 ·intro acc ha
  refine Ev.to (Ev.next (f:=fun _=>some (a',b',c',d',acc)) (Ev.now _) fun k=>?_) (by simp)
  simp only [spec_l18Without.l0];rw [if_neg (by omega)]
 ·intro n hn ih acc ha
  rw [List.drop_eq_getElem_cons hn]
  by_cases h:K[n].f0=id
  ·refine Ev.to (Ev.next (ih acc (by omega)) fun k=>?_) (by rw [List.filter_cons_of_neg (by simp [h])])
   simp only [spec_l18Without.l0];rw [if_pos (by omega),if_pos (by omega),rdK_nat K n hn,if_pos h,wrap_succ (by omega)]
  ·refine Ev.to (Ev.next (ih (acc ++ [K[n]]) (by simp;omega)) fun k=>?_) (by rw [List.filter_cons_of_pos (by simp [h]),List.append_assoc];rfl)
   simp only [spec_l18Without.l0];rw [if_pos (by omega),if_pos (by omega),rdK_nat K n hn,if_neg h,if_pos (by omega),wrap_succ (by omega)]
theorem sWithout_ev (id a b c d:Int) (K:List S83) (hl:K.length≤1048576):Ev (fun k=>spec_l18Without.f k a b c d K id) (a,b,c,d,K.filter (fun x=>!decide (x.f0=id))) :=
 Ev.to (Ev.congr (fun k=>rfl) (sWithout_loop id a b c d a b c d K hl 0 (by omega) [] (by simp))) (by simp)
theorem sOwed_ev (id a b c d:Int) (K:List S83) (hl:K.length≤1048576) (hM:fairM a b c d K=true) (j:Nat) (hj:j < K.length) (e:atK id K=(j:Int)):Ev (fun k=>spec_FairOwed.f k a b c d K id) (owesK b c d K[j]):=by
 unfold spec_FairOwed.f
 refine Ev.bind (sFair_ev a b c d K hl) ?_
 rw [hM]
 simp only [if_true]
 refine Ev.bind (sAtK_ev id a b c d K hl) ?_
 rw [e]
 refine Ev.next (f:=fun k=>(spec_l18At.f k a b c d K id).bind fun t=>if 0≤t then (if t < (K.length:Int) then (if (rd_T83 K t).f2=true then some true else ((spec_VecMost.f (rd_T83 K t).f3.f0 (rd_T83 K t).f3.f1 (rd_T83 K t).f3.f2 b c d).bind fun bt=>some (!(bt.1 == b) || (!(bt.2.1 == c) || (!(bt.2.2 == d)))))) else none) else none) ?_ fun k=>by simp only [spec_FairOwed.j0,decide_eq_false (show ¬ ((j:Int) < 0) by omega),if_neg (show ¬ (false=true) by decide)]
 refine Ev.bind (sAtK_ev id a b c d K hl) ?_
 rw [e]
 simp only [if_pos (show (0:Int)≤(j:Int) by omega),if_pos (show (j:Int) < (K.length:Int) by omega),rdK_nat K j hj,spec_VecMost.f,Option.bind_some]
 refine Ev.now' fun k=>?_
 unfold owesK
 by_cases hb:K[j].f2=true
 ·rw [if_pos hb,hb];simp
 ·rw [if_neg hb,Bool.eq_false_iff.2 hb];simp
theorem sLeave_ev (a b c d:Int) (K:List S83) (hl:K.length≤1048576) (id:Int):Ev (fun k=>spec_FairLeave.f k a b c d K id) (leaveT (leaveF a b c d K id)):=by
 unfold spec_FairLeave.f leaveF
 refine Ev.bind (sFair_ev a b c d K hl) ?_
 cases hM:fairM a b c d K with
 | false=>exact Ev.now' fun k=>by simp [leaveT,zF]
 | true =>
  simp only [if_true]
  refine Ev.bind (sAtK_ev id a b c d K hl) ?_
  rcases atK_cases id K with e | ⟨j,hj,e⟩
  ·rw [e];exact Ev.now' fun k=>by simp [leaveT,zF]
  ·rw [e]
   simp only [if_neg (show ¬ ((j:Int) < 0) by omega),rdK_nat K j hj]
   refine Ev.bind (sOwed_ev id a b c d K hl hM j hj e) ?_
   by_cases ho:owesK b c d K[j]=true
   ·simp only [if_pos ho];exact Ev.now' fun k=>by simp [leaveT,zF]
   ·simp only [if_neg ho]
    refine Ev.bind (sWithout_ev id a b c d K hl) ?_
    rw [kids_erase hM hj e]
    exact Ev.now' fun k=>by simp [leaveT]
theorem rd_set_self {L:List S83} {j:Nat} (h:j < L.length) (x:S83):rd_T83 (L.set j x) (j:Int)=x:=by
 rw [rdK_nat _ j (by simpa using h),List.getElem_set_self]
def wakeK (b c d:Int) (x:S83):S83:=⟨x.f0,x.f1,true,⟨mx x.f3.f0 b,mx x.f3.f1 c,mx x.f3.f2 d⟩⟩
def wakeF (a b c d:Int) (K:List S83) (id:Int):S59×Int :=
 if fairM a b c d K=true then (if atK id K < 0 then (zF,4) else if (rd_T83 K (atK id K)).f2=true then (zF,2) else (⟨a,⟨b,c,d⟩,K.set (atK id K).toNat (wakeK b c d (rd_T83 K (atK id K)))⟩,0)) else (zF,1)
def wakeT (x:S59×Int):Int×Int×Int×Int×List S83×Int:=(x.1.f0,x.1.f1.f0,x.1.f1.f1,x.1.f1.f2,x.1.f2,x.2)
theorem wakeF_len (a b c d:Int) (K:List S83) (id:Int):(wakeF a b c d K id).1.f2.length≤K.length:=by
 unfold wakeF zF;repeat (first | split | simp)
theorem sWake_ev (a b c d:Int) (K:List S83) (hl:K.length≤1048576) (id:Int):Ev (fun k=>spec_FairWake.f k a b c d K id) (wakeT (wakeF a b c d K id)):=by
 unfold spec_FairWake.f wakeF
 refine Ev.bind (sFair_ev a b c d K hl) ?_
 cases fairM a b c d K with
 | false=>exact Ev.now' fun k=>by simp [wakeT,zF]
 | true =>
  simp only [if_true]
  refine Ev.bind (sAtK_ev id a b c d K hl) ?_
  rcases atK_cases id K with e | ⟨j,hj,e⟩
  ·rw [e];exact Ev.now' fun k=>by simp [wakeT,zF]
  ·rw [e]
   simp only [if_neg (show ¬ ((j:Int) < 0) by omega),if_pos (show (0:Int)≤(j:Int) by omega),if_pos (show (j:Int) < (K.length:Int) by omega)]
   by_cases hb:(rd_T83 K (j:Int)).f2=true
   ·simp only [if_pos hb]
    exact Ev.now' fun k=>by simp [wakeT,zF]
   ·simp only [if_neg hb,spec_l18Copy.f,Option.bind_some]
    rw [if_pos (by simp <;> omega)]
    exact Ev.now' fun k=>by simp [wakeT,wakeK,hj,spec_VecMost.f,rdK_nat _ j hj,rd_set_self hj]
def restK (x:S83):S83:=⟨x.f0,x.f1,false,⟨x.f3.f0,x.f3.f1,x.f3.f2⟩⟩
def restF (a b c d:Int) (K:List S83) (id:Int):S59×Int :=
 if fairM a b c d K=true then (if atK id K < 0 then (zF,4) else if (rd_T83 K (atK id K)).f2=true then (⟨a,⟨b,c,d⟩,K.set (atK id K).toNat (restK (rd_T83 K (atK id K)))⟩,0) else (zF,6)) else (zF,1)
def restT (x:S59×Int):Int×Int×Int×Int×List S83×Int:=(x.1.f0,x.1.f1.f0,x.1.f1.f1,x.1.f1.f2,x.1.f2,x.2)
theorem restF_len (a b c d:Int) (K:List S83) (id:Int):(restF a b c d K id).1.f2.length≤K.length:=by
 unfold restF zF;repeat (first | split | simp)
theorem sRest_ev (a b c d:Int) (K:List S83) (hl:K.length≤1048576) (id:Int):Ev (fun k=>spec_FairRest.f k a b c d K id) (restT (restF a b c d K id)):=by
 unfold spec_FairRest.f restF
 refine Ev.bind (sFair_ev a b c d K hl) ?_
 cases fairM a b c d K with
 | false=>exact Ev.now' fun k=>by simp [restT,zF]
 | true =>
  simp only [if_true]
  refine Ev.bind (sAtK_ev id a b c d K hl) ?_
  rcases atK_cases id K with e | ⟨j,hj,e⟩
  ·rw [e];exact Ev.now' fun k=>by simp [restT,zF]
  ·rw [e]
   simp only [if_neg (show ¬ ((j:Int) < 0) by omega),if_pos (show (0:Int)≤(j:Int) by omega),if_pos (show (j:Int) < (K.length:Int) by omega)]
   by_cases hb:(rd_T83 K (j:Int)).f2=true
   ·simp only [if_pos hb,spec_l18Copy.f,Option.bind_some]
    rw [if_pos (by simp <;> omega)]
    exact Ev.now' fun k=>by simp [restT,restK,hj]
   ·simp only [if_neg hb]
    exact Ev.now' fun k=>by simp [restT,zF]
def fairPickM (a b c d:Int) (L:List S83):Int:=if fairM a b c d L=true then (if pickM L < 0 then -1 else (rd_T83 L (pickM L)).f0) else -1
theorem sPick_loop (a b c d:Int) (L:List S83) (hl:L.length≤1048576):∀ m n,n+m=L.length→∀ x:Int,x < L.length→Ev (fun k=>spec_FairPick.l0 k x (n:Int) a b c d L) (if pickFrom L m n x < 0 then -1 else (rd_T83 L (pickFrom L m n x)).f0):=by
 intro m
 induction m with
 | zero =>
  intro n hn x hx
  rw [show pickFrom L 0 n x=x from rfl]
  refine Ev.next (f:=fun _=>some _) (Ev.now _) fun k=>?_
  simp only [spec_FairPick.l0];rw [if_neg (by omega)]
  by_cases h0:x < 0
  ·rw [if_pos h0,if_pos h0]
  ·rw [if_neg h0,if_neg h0,if_pos (by omega),if_pos (by omega)]
 | succ m ih =>
  intro n hn x hx
  have hlt:n < L.length:=by omega
  have hg:L.getD n z83=L[n]:=getD_lt _ hlt
  refine Ev.next (ih (n+1) (by omega) (pickStep L x n) (pickStep_lt hx hlt)) fun k=>?_
  simp only [spec_FairPick.l0,spec_VecTop.f,Option.bind_some]
  rw [if_pos (by omega),if_pos (by omega),rdK_nat L n hlt,wrap_succ (by omega)]
  unfold pickStep;rw [hg]
  cases hf:L[n].f2 with
  | false=>simp
  | true =>
   simp only [if_true]
   by_cases h0:x < 0
   ·rw [if_pos h0,if_pos h0]
   ·rw [if_neg h0,if_neg h0,if_pos (by omega),if_pos (by omega)]
    by_cases h1:topK L[n] < topK (rd_T83 L x)
    ·rw [if_pos h1,if_pos h1]
    ·rw [if_neg h1,if_neg h1]
theorem sFairPick_ev (a b c d:Int) (L:List S83) (hl:L.length≤1048576):Ev (fun k=>spec_FairPick.f k a b c d L) (fairPickM a b c d L):=by
 unfold spec_FairPick.f fairPickM
 refine Ev.bind (sFair_ev a b c d L hl) ?_
 cases fairM a b c d L with
 | false=>exact Ev.now' fun k=>by simp
 | true=>simp only [if_true];exact sPick_loop a b c d L hl L.length 0 (by omega) (-1) (by omega)
theorem Ev.unf {α:Type} {g:Nat→Option α} {r:α} (h:Ev (fun k=>g (k+1)) r):Ev g r:=Ev.next h fun _=>rfl
theorem idI_none {id:Int}:∀ (l:List Int) (n:Nat),(∀ x ∈ l,x≠id)→idI id l n=-1
 | [],_,_=>rfl
 | x :: t,n,h=>by
  unfold idI
  rw [if_neg (h x (by simp))]
  exact idI_none t (n+1) fun y hy=>h y (by simp [hy])
theorem idI_at2 {id:Int}:∀ (l:List Int) (n p:Nat) (hp:p < l.length),l[p]=id→(∀ j (hj:j < p),(l[j]'(by omega))≠id)→idI id l n=((n+p:Nat):Int)
 | x :: t,n,0,_,e,_=>by
  unfold idI
  rw [if_pos (by simpa using e)];simp
 | x :: t,n,p+1,hp,e,hne=>by
  unfold idI
  rw [if_neg (by have:=hne 0 (by omega);simpa using this),idI_at2 t (n+1) p (by simpa using hp) (by simpa using e) (fun j hj=>by have:=hne (j+1) (by omega);simpa using this)]
  congr 1;omega
theorem atK_pick {a b c d:Int} {K:List S83} (h:fairM a b c d K=true) {p:Nat} (hp:p < K.length):atK K[p].f0 K=(p:Int):=by
 unfold atK
 rw [idI_at2 _ 0 p (by simpa using hp) (by simp) (fun j hj=>by have:=(fair_at h hp).2 j hj;simp;omega)];simp
theorem atK_none {a b c d:Int} {K:List S83} (h:fairM a b c d K=true):atK (-1) K=-1:=by
 unfold atK
 refine idI_none _ 0 fun x hx=>?_
 obtain ⟨y,hy,rfl⟩:=List.mem_map.1 hx
 obtain ⟨i,hi,rfl⟩:=List.getElem_of_mem hy
 have:=(fair_at h hi).1
 omega
def addM (a b w:Int):Int:=wrap64 (a+wrap64 (b * stride w))
def finM (a b c x y z w:Int):Int×Int×Int×Bool :=
 if (vFrom a b c 0 1000000000000 && (vFrom x y z 1 2000 && decide (1≤w∧w≤10)))=true then
  (if vFrom (addM a x w) (addM b y w) (addM c z w) 0 1000000000000=true then (addM a x w,addM b y w,addM c z w,true) else (0,0,0,false))
 else (0,0,0,false)
theorem sTag_eq (a b c:Int):spec_TagOk.f a b c=some (vFrom a b c 0 1000000000000):=by unfold spec_TagOk.f;rw [sAll_eq];rfl
theorem sFin_l (w a b c x y z:Int):Ev (fun k=>spec_Finish.l0 k w [a,b,c] [x,y,z] 0) (if vFrom (addM a x w) (addM b y w) (addM c z w) 0 1000000000000=true then (addM a x w,addM b y w,addM c z w,true) else (0,0,0,false)):=by
 have w1:wrap64 (0+1)=1:=wrap_id (x:=0+1) (by decide) (by decide)
 have w2:wrap64 (1+1)=2:=wrap_id (x:=1+1) (by decide) (by decide)
 have w3:wrap64 (2+1)=3:=wrap_id (x:=2+1) (by decide) (by decide)
 refine Ev.next (f:=fun k=>spec_Finish.l0 k w [addM a x w,b,c] [x,y,z] 1) ?_ fun k=>?_
 ·refine Ev.next (f:=fun k=>spec_Finish.l0 k w [addM a x w,addM b y w,c] [x,y,z] 2) ?_ fun k=>?_
  ·refine Ev.next (f:=fun k=>spec_Finish.l0 k w [addM a x w,addM b y w,addM c z w] [x,y,z] 3) ?_ fun k=>?_
   ·refine Ev.next (f:=fun _=>_) (Ev.now _) fun k=>?_
    simp only [spec_Finish.l0]
    rw [if_neg (by decide)]
    simp only [spec_l13Of.f]
    rw [if_pos (by simp),if_pos (by simp),if_pos (by simp)]
    simp only [Option.bind_some,sTag_eq]
    change (if vFrom (addM a x w) (addM b y w) (addM c z w) 0 1000000000000=true then _ else _)=_
    cases vFrom (addM a x w) (addM b y w) (addM c z w) 0 1000000000000
    ·rfl
    ·rfl
   ·simp only [spec_Finish.l0]
    rw [if_pos (by decide),if_pos (by decide),if_pos (by simp),if_pos (by simp),sStride_eq,Option.bind_some,w3];rfl
  ·simp only [spec_Finish.l0]
   rw [if_pos (by decide),if_pos (by decide),if_pos (by simp),if_pos (by simp),sStride_eq,Option.bind_some,w2];rfl
 ·simp only [spec_Finish.l0]
  rw [if_pos (by decide),if_pos (by decide),if_pos (by simp),if_pos (by simp),sStride_eq,Option.bind_some,w1];rfl
theorem sFinish_ev (a b c x y z w:Int):Ev (fun k=>spec_Finish.f k a b c x y z w) (finM a b c x y z w):=by
 have hj:Ev (fun k=>spec_Finish.j0 k w true a b c x y z) (0,0,0,false):=Ev.next (f:=fun _=>some (0,0,0,false)) (Ev.now _) fun k=>by simp only [spec_Finish.j0,if_true]
 unfold spec_Finish.f finM
 simp only [sTag_eq,Option.bind_some,sCharge_eq,sStride_eq]
 cases h1:vFrom a b c 0 1000000000000 with
 | false=>simpa using hj
 | true =>
  cases h2:vFrom x y z 1 2000 with
  | false=>simpa using hj
  | true =>
   by_cases h3:1≤w∧w≤10
   ·have h4:(stride w == 0)=false:=beq_eq_false_iff_ne.2 fun e=>absurd h3 ((stride_zero w).1 e)
    simp only [if_true,h4,decide_eq_true h3,Bool.and_self]
    refine Ev.unf ?_
    simp only [spec_Finish.j0,if_neg (show ¬ (false=true) by decide),spec_l13List.f,Option.bind_some]
    exact sFin_l w a b c x y z
   ·have h4:(stride w == 0)=true:=beq_iff_eq.2 ((stride_zero w).2 h3)
    simp only [if_true,h4,decide_eq_false h3]
    simpa using hj
def dovM (a b c d:Int):Int×Int×Int :=
 if (vFrom a b c 0 1000000000000 && decide (0≤d∧d≤10000000))=true then (mx a (wrap64 (mx (mx a b) c - d)),mx b (wrap64 (mx (mx a b) c - d)),mx c (wrap64 (mx (mx a b) c - d))) else (0,0,0)
theorem sDelta_eq (d:Int):spec_l13Delta.f d=some (decide (0≤d∧d≤10000000)):=by
 unfold spec_l13Delta.f
 by_cases h:d ≥ 0
 ·rw [if_pos h];congr 1;exact decide_eq_decide.2 (by omega)
 ·rw [if_neg h,decide_eq_false (by omega)]
theorem sDove_ev (a b c d:Int):Ev (fun k=>spec_Dovetail.f k a b c d) (dovM a b c d):=by
 have hj:Ev (fun k=>spec_Dovetail.j0 k d true a b c) (0,0,0):=Ev.next (f:=fun _=>some (0,0,0)) (Ev.now _) fun k=>by simp only [spec_Dovetail.j0,if_true]
 have w1:wrap64 (0+1)=1:=wrap_id (x:=0+1) (by decide) (by decide)
 have w2:wrap64 (1+1)=2:=wrap_id (x:=1+1) (by decide) (by decide)
 have w3:wrap64 (2+1)=3:=wrap_id (x:=2+1) (by decide) (by decide)
 unfold spec_Dovetail.f dovM
 simp only [sTag_eq,Option.bind_some,sDelta_eq]
 cases h1:vFrom a b c 0 1000000000000 with
 | false=>simpa using hj
 | true =>
  by_cases h3:0≤d∧d≤10000000
  ·simp only [if_true,decide_eq_true h3,Bool.and_self,Bool.not_true]
   refine Ev.unf ?_
   simp only [spec_Dovetail.j0,if_neg (show ¬ (false=true) by decide),spec_l13List.f,Option.bind_some]
   generalize hT:wrap64 (mx (mx a b) c - d)=T
   refine Ev.next (f:=fun k=>spec_Dovetail.l0 k d [mx a T,b,c] 1 a b c) ?_ fun k=>?_
   ·refine Ev.next (f:=fun k=>spec_Dovetail.l0 k d [mx a T,mx b T,c] 2 a b c) ?_ fun k=>?_
    ·refine Ev.next (f:=fun k=>spec_Dovetail.l0 k d [mx a T,mx b T,mx c T] 3 a b c) ?_ fun k=>?_
     ·refine Ev.next (f:=fun _=>_) (Ev.now _) fun k=>?_
      simp only [spec_Dovetail.l0]
      rw [if_neg (by decide)]
      simp only [spec_l13Of.f]
      rw [if_pos (by simp),if_pos (by simp),if_pos (by simp)];rfl
     ·simp only [spec_Dovetail.l0,spec_VecTop.f]
      rw [if_pos (by decide),if_pos (by decide),if_pos (by simp),Option.bind_some,w3,hT];rfl
    ·simp only [spec_Dovetail.l0,spec_VecTop.f]
     rw [if_pos (by decide),if_pos (by decide),if_pos (by simp),Option.bind_some,w2,hT];rfl
   ·simp only [spec_Dovetail.l0,spec_VecTop.f]
    rw [if_pos (by decide),if_pos (by decide),if_pos (by simp),Option.bind_some,w1,hT];rfl
  ·simp only [if_true,decide_eq_false h3]
   simpa using hj
def serveK (a:Int) (x:S83) (p q r:Int) (more:Bool):S83 :=
 ⟨x.f0,x.f1,more,⟨(dovM (finM x.f3.f0 x.f3.f1 x.f3.f2 p q r x.f1).1 (finM x.f3.f0 x.f3.f1 x.f3.f2 p q r x.f1).2.1 (finM x.f3.f0 x.f3.f1 x.f3.f2 p q r x.f1).2.2.1 a).1,(dovM (finM x.f3.f0 x.f3.f1 x.f3.f2 p q r x.f1).1 (finM x.f3.f0 x.f3.f1 x.f3.f2 p q r x.f1).2.1 (finM x.f3.f0 x.f3.f1 x.f3.f2 p q r x.f1).2.2.1 a).2.1,(dovM (finM x.f3.f0 x.f3.f1 x.f3.f2 p q r x.f1).1 (finM x.f3.f0 x.f3.f1 x.f3.f2 p q r x.f1).2.1 (finM x.f3.f0 x.f3.f1 x.f3.f2 p q r x.f1).2.2.1 a).2.2⟩⟩
def serveF (a b c d:Int) (K:List S83) (p q r:Int) (more:Bool):S59×Int :=
 if (fairM a b c d K && vFrom p q r 1 2000)=true then
  (if pickM K < 0 then (zF,4) else
   if mx (mx (mx b (rd_T83 K (pickM K)).f3.f0) (mx c (rd_T83 K (pickM K)).f3.f1)) (mx d (rd_T83 K (pickM K)).f3.f2) > 100000000000 then (zF,7) else
    (⟨a,⟨mx b (rd_T83 K (pickM K)).f3.f0,mx c (rd_T83 K (pickM K)).f3.f1,mx d (rd_T83 K (pickM K)).f3.f2⟩,K.set (pickM K).toNat (serveK a (rd_T83 K (pickM K)) p q r more)⟩,0))
 else (zF,1)
def serveT (x:S59×Int):Int×Int×Int×Int×List S83×Int:=(x.1.f0,x.1.f1.f0,x.1.f1.f1,x.1.f1.f2,x.1.f2,x.2)
theorem serveF_len (a b c d:Int) (K:List S83) (p q r:Int) (more:Bool):(serveF a b c d K p q r more).1.f2.length≤K.length:=by
 unfold serveF zF;repeat (first | split | simp)
theorem rd_set_at {L:List S83} {j:Nat} (h:j < L.length) (x:S83):rd_T83 (L.set j x) (j:Int)=x:=by
 rw [rdK_nat _ j (by simpa using h),List.getElem_set_self]
theorem sServe_ev (a b c d:Int) (K:List S83) (hl:K.length≤1048576) (p q r:Int) (more:Bool):Ev (fun k=>spec_FairServe.f k a b c d K p q r more) (serveT (serveF a b c d K p q r more)):=by
 have hj:Ev (fun k=>spec_FairServe.j0 k more true a b c d K p q r) (0,0,0,0,[],1):=Ev.next (f:=fun _=>some (0,0,0,0,[],1)) (Ev.now _) fun k=>by simp only [spec_FairServe.j0,if_true]
 unfold spec_FairServe.f serveF
 refine Ev.bind (sFair_ev a b c d K hl) ?_
 cases hF:fairM a b c d K with
 | false=>simpa [serveT,zF] using hj
 | true =>
  simp only [sCharge_eq,Option.bind_some,if_true]
  cases vFrom p q r 1 2000 with
  | false=>simpa [serveT,zF] using hj
  | true =>
   simp only [Bool.and_self,if_true,Bool.not_true]
   refine Ev.unf ?_
   simp only [spec_FairServe.j0,if_neg (show ¬ (false=true) by decide)]
   refine Ev.bind (sFairPick_ev a b c d K hl) ?_
   have hp:fairPickM a b c d K=if pickM K < 0 then -1 else (rd_T83 K (pickM K)).f0:=by unfold fairPickM;rw [if_pos hF]
   rw [hp]
   by_cases h:pickM K < 0
   ·simp only [if_pos h]
    refine Ev.bind (sAtK_ev (-1) a b c d K hl) ?_
    rw [atK_none hF];exact Ev.now' fun k=>by simp [serveT,zF]
   ·simp only [if_neg h]
    have hb:=pickM_bd K
    obtain ⟨j,hje⟩:∃ j:Nat,pickM K=j:=⟨(pickM K).toNat,by omega⟩
    have hjl:j < K.length:=by omega
    rw [hje]
    simp only [rdK_nat K j hjl]
    refine Ev.bind (sAtK_ev _ a b c d K hl) ?_
    rw [atK_pick hF hjl]
    simp only [if_neg (show ¬ ((j:Int) < 0) by omega),if_pos (show (0:Int)≤(j:Int) by omega),if_pos (show (j:Int) < (K.length:Int) by omega),rdK_nat K j hjl,spec_l18Copy.f,spec_VecMost.f,spec_VecTop.f,Option.bind_some]
    rw [if_pos (by simp <;> omega)]
    simp only [Option.bind_some,List.nil_append,rdK_nat K j hjl]
    by_cases ht:mx (mx (mx b K[j].f3.f0) (mx c K[j].f3.f1)) (mx d K[j].f3.f2) > 100000000000
    ·simp only [if_pos ht];exact Ev.now' fun k=>by simp [serveT,zF]
    ·simp only [if_neg ht]
     refine Ev.bind (sFinish_ev _ _ _ _ _ _ _) (Ev.bind (sDove_ev _ _ _ _) ?_)
     simp only [if_pos (show (j:Int) < (K.length:Int) by omega),Int.toNat_natCast,rd_set_at hjl,List.set_set]
     exact Ev.now' fun k=>by simp [serveT,serveK]
def lowM (x y z b:Int):S29:=if vFrom x y z 0 1000000000000=true∧0≤b∧b≤1000000000000 then ⟨mx 0 (wrap64 (x - b)),mx 0 (wrap64 (y - b)),mx 0 (wrap64 (z - b))⟩ else ⟨0,0,0⟩
theorem sLower_eq (x y z b:Int):spec_Lower.f x y z b=some ((lowM x y z b).f0,(lowM x y z b).f1,(lowM x y z b).f2):=by
 unfold spec_Lower.f spec_TagOk.f lowM
 simp only [sAll_eq,Option.bind_some]
 cases vFrom x y z 0 1000000000000 with
 | false=>simp
 | true =>
  by_cases h1:b < 0
  ·simp [h1,show ¬ (0≤b) by omega]
  ·by_cases h2:b > 1000000000000
   ·simp [h1,h2,show ¬ (b≤1000000000000) by omega]
   ·simp [h1,h2,show 0≤b by omega,show b≤1000000000000 by omega]
def baseM (x y z d:Int):Int:=if vFrom x y z 0 1000000000000=true∧0≤d∧d≤10000000 then mx 0 (wrap64 (mx (mx x y) z - d)) else 0
theorem sBase_eq (x y z d:Int):spec_BaseOf.f x y z d=some (baseM x y z d):=by
 unfold spec_BaseOf.f spec_TagOk.f spec_l13Delta.f spec_VecTop.f baseM
 simp only [sAll_eq,Option.bind_some]
 cases vFrom x y z 0 1000000000000 with
 | false=>simp
 | true =>
  by_cases h1:0≤d
  ·by_cases h2:d≤10000000
   ·simp [h1,h2]
   ·simp [h1,h2]
  ·simp [h1]
def kidR (b:Int) (x:S83):S83:=⟨x.f0,x.f1,x.f2,lowM x.f3.f0 x.f3.f1 x.f3.f2 b⟩
def fairR (a b c d:Int) (K:List S83):S59:=if fairM a b c d K=true then ⟨a,lowM b c d (baseM b c d a),K.map (kidR (baseM b c d a))⟩ else ⟨0,⟨0,0,0⟩,[]⟩
theorem fairR_len (a b c d:Int) (K:List S83):(fairR a b c d K).f2.length≤K.length:=by unfold fairR;split <;> simp
def fairT (x:S59):Int×Int×Int×Int×List S83:=(x.f0,x.f1.f0,x.f1.f1,x.f1.f2,x.f2)
theorem sFairR_loop (bs a b c d a' b' c' d':Int):∀ (l q p:List S83),q.length=p.length→p.length+l.length≤1048576→Ev (fun k=>spec_FairRebase.l0 k bs (p.length:Int) a b c d (q ++ l) a' b' c' d' (p ++ l)) (a',b',c',d',p ++ l.map (kidR bs))
 | [],q,p,hq,hl=>by
  refine Ev.to (Ev.next (f:=fun _=>some (a',b',c',d',p ++ [])) (Ev.now _) fun k=>?_) (by simp)
  simp only [spec_FairRebase.l0];rw [if_neg (by simp)]
 | x :: t,q,p,hq,hl=>by
  simp only [List.length_cons] at hl
  have ih:=sFairR_loop bs a b c d a' b' c' d' t (q ++ [x]) (p ++ [kidR bs x]) (by simp [hq]) (by simp;omega)
  refine Ev.to (Ev.next (f:=fun k=>spec_FairRebase.l0 k bs ((p.length+1:Nat):Int) a b c d (q ++ x :: t) a' b' c' d' (p ++ kidR bs x :: t)) (by simpa using ih) fun k=>?_) (by simp)
  simp only [spec_FairRebase.l0]
  rw [if_pos (by simp <;> omega),if_pos (by omega),if_pos (by simp [hq] <;> omega)]
  have hr:rd_T83 (q ++ x :: t) (p.length:Int)=x:=by rw [← hq];exact rdK_mid q t x
  simp only [hr,sLower_eq,Option.bind_some,rdK_mid,Int.toNat_natCast,set_mid,wrap_succ (show p.length < 4611686018427387904 by omega)]
  rfl
theorem sFairR_ev (a b c d:Int) (K:List S83) (hl:K.length≤1048576):Ev (fun k=>spec_FairRebase.f k a b c d K) (fairT (fairR a b c d K)):=by
 unfold spec_FairRebase.f fairR
 refine Ev.bind (sFair_ev a b c d K hl) ?_
 cases fairM a b c d K with
 | false=>exact Ev.now' fun k=>by simp [fairT]
 | true =>
  have h:=sFairR_loop (baseM b c d a) a b c d a (lowM b c d (baseM b c d a)).f0 (lowM b c d (baseM b c d a)).f1 (lowM b c d (baseM b c d a)).f2 K [] [] rfl (by simpa using hl)
  refine Ev.to (Ev.congr (fun k=>?_) h) (by simp [fairT])
  simp only [if_true,sBase_eq,Option.bind_some,spec_l18Copy.f,sLower_eq]
  rw [if_pos (by simp <;> omega)]
  simp
def Lg (L:List S44):Prop:=L.length≤1048576∧∀ x ∈ L,x.f3.length≤1048576
def Lm (m:Nat) (L:List S44):Prop:=L.length≤m∧∀ x ∈ L,x.f3.length≤1048576
theorem lm_nil (m:Nat):Lm m []:=⟨by simp,fun x hx=>by simp at hx⟩
theorem lg_add {L:List S44} {x:S44} (h:∀ x ∈ L,x.f3.length≤1048576) (hx:x.f3.length≤1048576):∀ y ∈ L ++ [x],y.f3.length≤1048576:=by
 intro y hy
 rcases List.mem_append.1 hy with h1 | h1
 ·exact h y h1
 ·rw [List.mem_singleton.1 h1];exact hx
theorem G.nx1 {α:Type} {g f:Nat→Option α} {P:α→Prop} (e:∀ k,g (k+1)=f k) (h:G f P):G g P:=G.next h e
theorem G.wk {α:Type} {f:Nat→Option α} {P Q:α→Prop} (h:G f P) (hq:∀ t,P t→Q t):G f Q:=by
 obtain ⟨t,ht,hP⟩:=h
 exact ⟨t,ht,hq t hP⟩
theorem sKid_G (a b c d:Int) (K:List S83) (hK:K.length≤1048576) (id:Int):G (fun k=>spec_FairKid.f k a b c d K id) (fun _=>True):=by
 unfold spec_FairKid.f
 refine G.bind (G.ev (sFair_ev a b c d K hK) (rfl:fairM a b c d K=fairM a b c d K)) fun t _=>?_
 cases t with
 | false=>simp only [if_neg (show ¬ (false=true) by decide)];exact G.now trivial
 | true =>
  simp only [if_true]
  refine G.bind (G.ev (sAtK_ev id a b c d K hK) (rfl:atK id K=atK id K)) fun u hu=>?_
  by_cases h:u < 0
  ·simp only [if_pos h];exact G.now trivial
  ·simp only [if_neg h]
   refine G.bind (G.ev (sAtK_ev id a b c d K hK) (rfl:atK id K=atK id K)) fun v hv=>?_
   rcases atK_cases id K with e | ⟨j,hj,e⟩
   ·omega
   ·simp only [if_pos (show (0:Int)≤v by omega),if_pos (show v < (K.length:Int) by omega)]
    exact G.now trivial
theorem run_loop (A:List S77) (hA:A.length≤1048576):∀ n,n≤A.length→∀ (L:List S44) (u a b c d:Int) (K:List S83),L.length≤n→(∀ x ∈ L,x.f3.length≤1048576)→K.length≤1048576 →
  G (fun k=>spec_FairRun.l0 k A L u (n:Int) a b c d K) (fun t=>Lm A.length t.2.2.2.2.2.1):=by
 refine down ?_ ?_
 ·intro L u a b c d K hL hx hK
  refine G.next (f:=fun _=>some (a,b,c,d,K,L,u)) (G.now ⟨by simp only;omega,hx⟩) fun k=>?_
  simp only [spec_FairRun.l0];rw [if_neg (by omega)]
 ·intro n hn ih L u a b c d K hL hx hK
  have stay:∀ u',G (fun k=>spec_FairRun.l0 k A L u' ((n+1:Nat):Int) a b c d K) (fun t=>Lm A.length t.2.2.2.2.2.1):=fun u'=>ih L u' a b c d K (by omega) hx hK
  have go:∀ (u' a' b' c' d':Int) (K':List S83),K'.length≤1048576→G (fun k=>spec_FairRun.l0 k A L u' ((n+1:Nat):Int) a' b' c' d' K') (fun t=>Lm A.length t.2.2.2.2.2.1):=fun u' a' b' c' d' K' h=>ih L u' a' b' c' d' K' (by omega) hx h
  refine G.nx1 (fun k=>spec_FairRun.l0.eq_2 ..) ?_
  simp only [if_pos (show (n:Int) < (A.length:Int) by omega),if_pos (show (0:Int)≤(n:Int) by omega),wrap_succ (show n < 4611686018427387904 by omega)]
  by_cases c1:(rd_T77 A (n:Int)).f0=1
  ·simp only [if_pos c1]
   refine G.bind (P:=fun t=>t.2.2.2.2.1.length≤1048576) (G.ev (sJoin_ev a b c d K hK _ _) (joinF_len a b c d K _ _)) fun t ht=>?_
   by_cases e:t.2.2.2.2.2=0
   ·simp only [if_pos e];exact go _ _ _ _ _ _ ht
   ·simp only [if_neg e];exact stay _
  ·simp only [if_neg c1]
   by_cases c2:(rd_T77 A (n:Int)).f0=2
   ·simp only [if_pos c2]
    refine G.bind (P:=fun t=>t.2.2.2.2.1.length≤1048576) (G.ev (sLeave_ev a b c d K hK _) (Nat.le_trans (leaveF_len a b c d K _) hK)) fun t ht=>?_
    by_cases e:t.2.2.2.2.2=0
    ·simp only [if_pos e];exact go _ _ _ _ _ _ ht
    ·simp only [if_neg e];exact stay _
   ·simp only [if_neg c2]
    by_cases c3:(rd_T77 A (n:Int)).f0=3
    ·simp only [if_pos c3]
     refine G.bind (P:=fun t=>t.2.2.2.2.1.length≤1048576) (G.ev (sWake_ev a b c d K hK _) (Nat.le_trans (wakeF_len a b c d K _) hK)) fun t ht=>?_
     by_cases e:t.2.2.2.2.2=0
     ·simp only [if_pos e];exact go _ _ _ _ _ _ ht
     ·simp only [if_neg e];exact stay _
    ·simp only [if_neg c3]
     by_cases c4:(rd_T77 A (n:Int)).f0=4
     ·simp only [if_pos c4]
      refine G.bind (P:=fun t=>t.2.2.2.2.1.length≤1048576) (G.ev (sRest_ev a b c d K hK _) (Nat.le_trans (restF_len a b c d K _) hK)) fun t ht=>?_
      by_cases e:t.2.2.2.2.2=0
      ·simp only [if_pos e];exact go _ _ _ _ _ _ ht
      ·simp only [if_neg e];exact stay _
     ·simp only [if_neg c4]
      by_cases c5:(rd_T77 A (n:Int)).f0=5
      ·simp only [if_pos c5]
       refine G.bind (P:=fun t=>t.2.2.2.2.1.length≤1048576) (G.ev (sServe_ev a b c d K hK _ _ _ _) (Nat.le_trans (serveF_len a b c d K _ _ _ _) hK)) fun t ht=>?_
       by_cases e:t.2.2.2.2.2=0
       ·simp only [if_pos e]
        refine G.bind (P:=fun _=>True) (G.ev (sFairPick_ev a b c d K hK) trivial) fun p _=>G.bind (sKid_G a b c d K hK p) fun q _=>G.bind (P:=fun z=>z.length≤1048576) (G.ev (sBusyIds_ev a b c d K hK) ?_) fun z hz=>?_
        ·rw [List.length_map];exact Nat.le_trans (List.length_filter_le _ _) hK
        ·simp only [if_pos (show L.length < 2199023255552 by omega)]
         exact ih _ _ _ _ _ _ _ (by simp;omega) (lg_add hx hz) ht
       ·simp only [if_neg e];exact stay _
      ·simp only [if_neg c5]
       by_cases c6:(rd_T77 A (n:Int)).f0=6
       ·simp only [if_pos c6]
        refine G.bind (P:=fun t=>t.2.2.2.2.length≤1048576) (G.ev (sFairR_ev a b c d K hK) (Nat.le_trans (fairR_len a b c d K) hK)) fun t ht=>?_
        exact go _ _ _ _ _ _ ht
       ·simp only [if_neg c6]
        exact stay _
theorem run_G (A:List S77) (hA:A.length≤1048576) (a b c d:Int) (K:List S83) (hK:K.length≤1048576):G (fun k=>spec_FairRun.f k a b c d K A) (fun t=>Lm A.length t.2.2.2.2.2.1):=by
 have j:∀ z:Bool,G (fun k=>spec_FairRun.j0 k A z a b c d K) (fun t=>Lm A.length t.2.2.2.2.2.1):=by
  intro z
  refine G.nx1 (fun k=>spec_FairRun.j0.eq_2 ..) ?_
  cases z with
  | true=>simp only [if_true];exact G.now (lm_nil _)
  | false =>
   simp only [if_neg (show ¬ (false=true) by decide),spec_l18Copy.f,Option.bind_some,List.nil_append,List.length_nil,if_pos (show 0+K.length < 2932031007402 by omega)]
   exact run_loop A hA 0 (by omega) [] 0 a b c d K (by simp) (fun x hx=>by simp at hx) hK
 unfold spec_FairRun.f
 refine G.bind (P:=fun _=>True) (G.ev (sFair_ev a b c d K hK) trivial) fun t _=>?_
 cases t with
 | true=>simp only [if_true];exact j _
 | false=>simp only [if_neg (show ¬ (false=true) by decide)];exact j _
theorem rdL_len {LL:List (List Int)} {B:Nat} (h:∀ x ∈ LL,x.length≤B) (i:Int):(rd_L6 LL i).length≤B:=by
 unfold rd_L6
 rw [List.getD_eq_getElem?_getD]
 cases e:LL[i.toNat]? with
 | none=>simp
 | some x=>exact h x (List.mem_of_getElem? e)
theorem of3_ok {L:List Int} (h:L.length=3):∃ t,spec_l13Of.f L=some t:=by
 unfold spec_l13Of.f
 rw [if_pos (by omega),if_pos (by omega),if_pos (by omega)]
 exact ⟨_,rfl⟩
section
variable {l : List Int} (hl : AllB l) (hz : l.length ≤ 1048576)
include hl hz
theorem pick_G {n:Nat} {x s:Int} (h:Dr n x s) (hn:n≤900000) (a:Int):G (fun _=>spec_l01Cur_pick.f l x s a) (fun t=>0≤t.1∧(1≤a→t.1 < a)∧Dr (n+1) t.2.1 t.2.2):=G.of (pick_ok hl hz h (by omega) a)
theorem once_G {n:Nat} {x s:Int} (h:Dr n x s) (hn:n≤900000) (a:Int):G (fun _=>spec_l01Cur_once.f l x s a) (fun t=>Dr (n+1) t.2.1 t.2.2):=G.of (once_ok hl hz h (by omega) a)
theorem raw_G {n:Nat} {x s:Int} (h:Dr n x s) (hn:n≤900000):G (fun _=>spec_l01Cur_raw.f l x s) (fun t=>Dr (n+2) t.2.1 t.2.2):=G.of (raw_ok hl hz h (by omega))
theorem wide_G {n:Nat} {x s:Int} (h:Dr n x s) (hn:n≤900000) (a:Int) (ha:a≠0):G (fun _=>spec_l01Cur_wide.f l x s a) (fun t=>Dr (n+3) t.2.1 t.2.2):=G.of (wide_ok hl hz h (by omega) a ha)
theorem size_G {n:Nat} {x s:Int} (h:Dr n x s) (hn:n≤900000) (m:Int) (hm:1≤m∧m≤1000):G (fun _=>spec_l01Cur_size.f l x s m) (fun t=>(0≤t.1∧t.1≤m)∧Dr (n+1) t.2.1 t.2.2):=by
 unfold spec_l01Cur_size.f
 have e1:0≤(l.length:Int) / 8∧(l.length:Int) / 8≤131072:=by omega
 simp only [wrap_id (x:=(l.length:Int) / 8) (by omega) (by omega),wrap_id (x:=1+(l.length:Int) / 8) (by omega) (by omega)]
 have e2:1≤mn m (1+(l.length:Int) / 8)∧mn m (1+(l.length:Int) / 8)≤m:=by unfold mn;split <;> omega
 simp only [wrap_id (x:=mn m (1+(l.length:Int) / 8)+1) (by omega) (by omega)]
 refine G.bind (pick_G hl hz h (by omega) _) fun t d=>G.now ⟨⟨d.1,?_⟩,d.2.2⟩
 have:=d.2.1 (by omega)
 show t.1≤m
 omega
theorem cost_G {n:Nat} {x s:Int} (h:Dr n x s) (hn:n≤800000) (a:Int) (ha:a≠0):G (fun _=>spec_l01Cur_cost.f l x s a) (fun t=>Dr (n+10) t.2.2.2.1 t.2.2.2.2):=by
 unfold spec_l01Cur_cost.f
 simp only [Option.bind_some]
 refine G.bind (pick_G hl hz h (by omega) 4) fun t1 d1=>?_
 have h1:=d1.2.1 (by decide)
 have h0:=d1.1
 simp only [if_pos h0,if_pos (show t1.1 < (([9,100,a,a]:List Int).length:Int) from h1)]
 have hr:rd [9,100,a,a] t1.1≠0:=by
  have e:t1.1=0∨t1.1=1∨t1.1=2∨t1.1=3:=by omega
  rcases e with e | e | e | e <;> rw [e]
  ·exact (by decide:(9:Int)≠0)
  ·exact (by decide:(100:Int)≠0)
  ·exact ha
  ·exact ha
 exact G.bind (wide_G hl hz d1.2.2 (by omega) _ hr) fun t2 d2=>G.bind (wide_G hl hz d2 (by omega) _ hr) fun t3 d3=>G.bind (wide_G hl hz d3 (by omega) _ hr) fun t4 d4=>G.now (d4.mono (by omega))
theorem delta_G {n:Nat} {x s:Int} (h:Dr n x s) (hn:n≤800000):G (fun _=>spec_l01Cur_delta.f l x s) (fun t=>Dr (n+4) t.2.1 t.2.2):=by
 unfold spec_l01Cur_delta.f
 refine G.bind (wide_G hl hz h (by omega) 4194304 (by decide)) fun t1 d1=>?_
 simp only [Option.bind_some]
 refine G.bind (pick_G hl hz d1 (by omega) 6) fun t2 d2=>?_
 have h2:=d2.2.1 (by decide)
 simp only [if_pos d2.1,if_pos (show t2.1 < (([0,1,2520,100000,10000000,t1.1]:List Int).length:Int) from h2)]
 exact G.now (d2.2.2.mono (by omega))
theorem vec_G {n:Nat} {x s:Int} (h:Dr n x s) (hn:n≤800000):G (fun _=>spec_l01Cur_vec.f l x s) (fun t=>Dr (n+7) t.2.2.2.1 t.2.2.2.2):=by
 unfold spec_l01Cur_vec.f
 refine G.bind (once_G hl hz h (by omega) 5) fun t0 d0=>?_
 by_cases c:t0.1=true
 ·simp only [if_pos c]
  exact G.bind (raw_G hl hz d0 (by omega)) fun t1 d1=>G.bind (raw_G hl hz d1 (by omega)) fun t2 d2=>G.bind (raw_G hl hz d2 (by omega)) fun t3 d3=>G.now (d3.mono (by omega))
 ·simp only [if_neg c,Option.bind_some]
  refine G.bind (pick_G hl hz d0 (by omega) 5) fun t1 d1=>?_
  have h1:=d1.2.1 (by decide)
  simp only [if_pos d1.1,if_pos (show t1.1 < (([1,100,2520,2520000,1000000000]:List Int).length:Int) from h1)]
  exact G.bind (pick_G hl hz d1.2.2 (by omega) 256) fun t2 d2=>G.bind (pick_G hl hz d2.2.2 (by omega) 256) fun t3 d3=>G.bind (pick_G hl hz d3.2.2 (by omega) 256) fun t4 d4=>G.now (d4.2.2.mono (by omega))
theorem acts_l1 (p:Int) (hp:0≤p∧p < 3):∀ d:Nat,d≤1000→∀ {n:Nat} {x s:Int},Dr n x s→n+30 * d≤300000→∀ A:List S77,A.length+d≤2000→G (fun k=>spec_l01Cur_acts.l1 k A p (d:Int) l x s) (fun t=>t.1.length≤2000∧Dr (n+30 * d) t.2.1 t.2.2):=by
 intro d
 induction d with
 | zero =>
  intro _ n x s h hn A hA
  refine G.nx1 (fun k=>spec_l01Cur_acts.l1.eq_2 ..) ?_
  simp only [if_neg (show ¬ (((0:Nat):Int) > 0) by omega)]
  exact G.now ⟨by simp only;omega,h.mono (by omega)⟩
 | succ d ih =>
  intro hd n x s h hn A hA
  have w1:wrap64 (((d+1:Nat):Int) - 1)=(d:Int):=by rw [wrap_pred (by omega) (by omega)];simp
  have lim:A.length < 2513169434916:=by omega
  have next:∀ (e:S77) {x' s':Int},Dr (n+30) x' s'→G (fun k=>spec_l01Cur_acts.l1 k (A ++ [e]) p (d:Int) l x' s') (fun t=>t.1.length≤2000∧Dr (n+30 * (d+1)) t.2.1 t.2.2):=by
   intro e x' s' h'
   exact G.wk (ih (by omega) h' (by omega) (A ++ [e]) (by simp;omega)) fun t ht=>⟨ht.1,ht.2.mono (by omega)⟩
  have j2:∀ (z:Bool) {x' s':Int} (a b c e f g:Int) (m:Bool),Dr (n+30) x' s'→G (fun k=>spec_l01Cur_acts.j2 k A p ((d+1:Nat):Int) z l x' s' a b c e f g m) (fun t=>t.1.length≤2000∧Dr (n+30 * (d+1)) t.2.1 t.2.2):=by
   intro z x' s' a b c e f g m h'
   refine G.nx1 (fun k=>spec_l01Cur_acts.j2.eq_2 ..) ?_
   cases z with
   | false =>
    simp only [if_neg (show ¬ (false=true) by decide),if_pos lim,w1]
    exact next _ h'
   | true =>
    obtain ⟨t,et⟩:=of3_ok (L:=([e,f,g]:List Int).set p.toNat (mx (mx e f) g)) (by simp)
    simp only [if_true,spec_l13List.f,spec_VecTop.f,Option.bind_some,if_pos hp.1,if_pos (show p < (([e,f,g]:List Int).length:Int) from hp.2),et,if_pos lim,w1]
    exact next _ h'
  refine G.nx1 (fun k=>spec_l01Cur_acts.l1.eq_2 ..) ?_
  simp only [if_pos (show ((d+1:Nat):Int) > 0 by omega),Option.bind_some,w1,if_pos lim]
  refine G.bind (pick_G hl hz h (by omega) 2) fun t1 d1=>?_
  have h1:=d1.2.1 (by decide)
  have h0:=d1.1
  simp only [if_pos h0,if_pos (show t1.1 < (([40,2000]:List Int).length:Int) from h1)]
  have hr:rd [40,2000] t1.1≠0:=by
   have e:t1.1=0∨t1.1=1:=by omega
   rcases e with e | e <;> rw [e]
   ·exact (by decide:(40:Int)≠0)
   ·exact (by decide:(2000:Int)≠0)
  refine G.bind (cost_G hl hz d1.2.2 (by omega) _ hr) fun t2 d2=>G.bind (once_G hl hz d2 (by omega) 9) fun t3 d3=>G.bind (pick_G hl hz d3 (by omega) 10) fun t4 d4=>?_
  by_cases c0:t4.1=0
  ·simp only [if_pos c0]
   exact G.bind (pick_G hl hz d4.2.2 (by omega) 6) fun t5 d5=>G.bind (pick_G hl hz d5.2.2 (by omega) 6) fun t6 d6=>G.bind (pick_G hl hz d6.2.2 (by omega) 10) fun t7 d7=>G.bind (cost_G hl hz d7.2.2 (by omega) 9 (by decide)) fun t8 d8=>next _ (d8.mono (by omega))
  ·simp only [if_neg c0]
   by_cases c1:t4.1=1
   ·simp only [if_pos c1]
    exact G.bind (pick_G hl hz d4.2.2 (by omega) 5) fun t5 d5=>next _ (d5.2.2.mono (by omega))
   ·simp only [if_neg c1]
    by_cases c2:t4.1=2
    ·simp only [if_pos c2];exact next _ (d4.2.2.mono (by omega))
    ·simp only [if_neg c2]
     by_cases c3:t4.1=3
     ·simp only [if_pos c3];exact j2 _ _ _ _ _ _ _ _ (d4.2.2.mono (by omega))
     ·simp only [if_neg c3]
      by_cases c4:t4.1=4
      ·simp only [if_pos c4];exact j2 _ _ _ _ _ _ _ _ (d4.2.2.mono (by omega))
      ·simp only [if_neg c4];exact j2 _ _ _ _ _ _ _ _ (d4.2.2.mono (by omega))
theorem acts_l0 (p:Int) (hp:0≤p∧p < 3):∀ m,m≤4→∀ {n:Nat} {x s:Int},Dr n x s→n≤1000+m→∀ A:List S77,A.length≤2 * m→G (fun k=>spec_l01Cur_acts.l0 k 40 A p (m:Int) l x s) (fun t=>t.1.length≤2000∧Dr 10000 t.2.1 t.2.2):=by
 refine down ?_ ?_
 ·intro n x s h hn A hA
  refine G.nx1 (fun k=>spec_l01Cur_acts.l0.eq_2 ..) ?_
  simp only [if_neg (show ¬ (((4:Nat):Int) < 4) by omega)]
  refine G.bind (size_G hl hz h (by omega) 40 (by omega)) fun t d=>?_
  obtain ⟨q,hq⟩:∃ q:Nat,t.1=(q:Int):=⟨t.1.toNat,by have:=d.1.1;omega⟩
  have hq2:=d.1.2
  rw [hq]
  exact G.wk (acts_l1 hl hz p hp q (by omega) d.2 (by omega) A (by omega)) fun u hu=>⟨hu.1,hu.2.mono (by omega)⟩
 ·intro m hm ih n x s h hn A hA
  refine G.nx1 (fun k=>spec_l01Cur_acts.l0.eq_2 ..) ?_
  simp only [if_pos (show (m:Int) < 4 by omega),wrap_succ (show m < 4611686018427387904 by omega)]
  refine G.bind (pick_G hl hz h (by omega) 10) fun t d=>?_
  simp only [Option.bind_some]
  simp only [List.length_cons,List.length_nil,if_pos (show A.length+(0+1+1) < 2513169434916 by omega)]
  exact ih d.2.2 (by omega) _ (by simp;omega)
theorem acts_G {n:Nat} {x s:Int} (h:Dr n x s) (hn:n≤900):G (fun k=>spec_l01Cur_acts.f k l x s 40) (fun t=>t.1.length≤2000∧Dr 10000 t.2.1 t.2.2):=by
 unfold spec_l01Cur_acts.f
 refine G.bind (pick_G hl hz h (by omega) 3) fun t d=>?_
 exact acts_l0 hl hz t.1 ⟨d.1,d.2.1 (by decide)⟩ 0 (by omega) d.2.2 (by omega) [] (by simp)
theorem deals_j1 {L:List S44} (hL:L.length≤1000000) (hx:∀ x ∈ L,x.f3.length≤1048576) {n:Nat} {x s:Int} (h:Dr n x s) (hn:n≤20000):G (fun k=>spec_l01Cur_deals.j1 k L l x s) (fun t=>Lg t.1∧Dr (n+20) t.2.1 t.2.2):=by
 refine G.nx1 (fun k=>spec_l01Cur_deals.j1.eq_2 ..) ?_
 have here:Lg L:=⟨by omega,hx⟩
 refine G.bind (pick_G hl hz h (by omega) 12) fun t1 d1=>?_
 by_cases c0:t1.1=0
 ·simp only [if_pos c0,if_pos (show L.length < 2199023255552 by omega)]
  exact G.bind (pick_G hl hz d1.2.2 (by omega) 3) fun t2 d2=>G.bind (pick_G hl hz d2.2.2 (by omega) 12) fun t3 d3=>G.bind (vec_G hl hz d3.2.2 (by omega)) fun t4 d4=>G.bind (pick_G hl hz d4 (by omega) 3) fun t5 d5=>G.bind (pick_G hl hz d5.2.2 (by omega) 3) fun t6 d6=>G.now ⟨⟨by simp;omega,lg_add hx (by simp)⟩,d6.2.2.mono (by omega)⟩
 ·simp only [if_neg c0]
  by_cases c1:t1.1=1
  ·simp only [if_pos c1]
   by_cases c2:(L.length:Int) > 0
   ·simp only [if_pos c2,if_pos (show (0:Int) < (L.length:Int) by omega)]
    refine G.bind (raw_G hl hz d1.2.2 (by omega)) fun t2 d2=>G.bind (raw_G hl hz d2 (by omega)) fun t3 d3=>G.now ⟨⟨by simp;omega,?_⟩,d3.mono (by omega)⟩
    intro y hy
    rcases List.mem_or_eq_of_mem_set hy with h1 | h1
    ·exact hx y h1
    ·rw [h1];simp
   ·simp only [if_neg c2]
    exact G.now ⟨here,d1.2.2.mono (by omega)⟩
  ·simp only [if_neg c1]
   exact G.now ⟨here,d1.2.2.mono (by omega)⟩
theorem deals_l0:∀ d:Nat,d≤12→∀ {n:Nat} {x s:Int},Dr n x s→n+20 * d≤10000→∀ L:List S44,L.length+d≤100→(∀ x ∈ L,x.f3.length≤1048576)→G (fun k=>spec_l01Cur_deals.l0 k L (d:Int) l x s) (fun t=>Lg t.1∧Dr 20000 t.2.1 t.2.2):=by
 intro d
 induction d with
 | zero =>
  intro _ n x s h hn L hL hx
  refine G.nx1 (fun k=>spec_l01Cur_deals.l0.eq_2 ..) ?_
  simp only [if_neg (show ¬ (((0:Nat):Int) > 0) by omega)]
  exact G.wk (deals_j1 hl hz (by omega) hx h (by omega)) fun t ht=>⟨ht.1,ht.2.mono (by omega)⟩
 | succ d ih =>
  intro hd n x s h hn L hL hx
  have w1:wrap64 (((d+1:Nat):Int) - 1)=(d:Int):=by rw [wrap_pred (by omega) (by omega)];simp
  refine G.nx1 (fun k=>spec_l01Cur_deals.l0.eq_2 ..) ?_
  simp only [if_pos (show ((d+1:Nat):Int) > 0 by omega),w1]
  refine G.bind (pick_G hl hz h (by omega) 3) fun t1 d1=>G.bind (pick_G hl hz d1.2.2 (by omega) 4) fun t2 d2=>G.bind (cost_G hl hz d2.2.2 (by omega) 20 (by decide)) fun t3 d3=>?_
  simp only [Option.bind_some]
  refine G.bind (pick_G hl hz d3 (by omega) 3) fun t4 d4=>?_
  have h4:=d4.2.1 (by decide)
  simp only [if_pos d4.1,if_pos (show t4.1 < (([([0,1,2]:List Int),[t1.1],[0,1,2,3]]:List (List Int)).length:Int) from h4),if_pos (show L.length < 2199023255552 by omega)]
  refine ih (by omega) d4.2.2 (by omega) _ (by simp;omega) (lg_add hx ?_)
  refine Nat.le_trans (rdL_len (B:=4) ?_ _) (by omega)
  intro y hy
  simp at hy
  rcases hy with rfl | rfl | rfl <;> simp
theorem deals_G {n:Nat} {x s:Int} (h:Dr n x s) (hn:n≤100):G (fun k=>spec_l01Cur_deals.f k l x s) (fun t=>Lg t.1∧Dr 30000 t.2.1 t.2.2):=by
 unfold spec_l01Cur_deals.f
 refine G.bind (once_G hl hz h (by omega) 2) fun t0 d0=>?_
 by_cases c:t0.1=true
 ·simp only [if_pos c]
  refine G.bind (delta_G hl hz d0 (by omega)) fun t1 d1=>?_
  have hnew:G (fun _:Nat=>spec_FairNew.f t1.1) (fun t=>t.2.2.2.2.length≤1048576):=by
   unfold spec_FairNew.f
   simp only [sDelta_eq,Option.bind_some]
   by_cases e:decide (0≤t1.1∧t1.1≤10000000)=true
   ·simp only [if_pos e];exact G.now (by simp)
   ·simp only [if_neg e];exact G.now (by simp)
  refine G.bind hnew fun t2 d2=>G.bind (acts_G hl hz d1 (by omega)) fun t3 d3=>G.bind (run_G t3.1 (by have:=d3.1;omega) _ _ _ _ _ d2) fun t4 d4=>?_
  exact G.wk (deals_j1 hl hz (by have:=d4.1;have:=d3.1;omega) d4.2 d3.2 (by omega)) fun u hu=>⟨hu.1,hu.2.mono (by omega)⟩
 ·simp only [if_neg c]
  refine G.bind (size_G hl hz d0 (by omega) 12 (by omega)) fun t d=>?_
  obtain ⟨q,hq⟩:∃ q:Nat,t.1=(q:Int):=⟨t.1.toNat,by have:=d.1.1;omega⟩
  have hq2:=d.1.2
  rw [hq]
  exact G.wk (deals_l0 hl hz q (by omega) d.2 (by omega) [] (by simp;omega) (fun x hx=>by simp at hx)) fun u hu=>⟨hu.1,hu.2.mono (by omega)⟩
theorem span_G {n:Nat} {x s:Int} (h:Dr n x s) (hn:n≤100000) (L:List S44):G (fun _=>spec_l01Cur_span.f l x s L) (fun t=>Dr (n+5) t.2.2.1 t.2.2.2):=by
 unfold spec_l01Cur_span.f
 refine G.bind (once_G hl hz h (by omega) 8) fun t0 d0=>?_
 by_cases c:t0.1=true
 ·simp only [if_pos c]
  exact G.bind (raw_G hl hz d0 (by omega)) fun t1 d1=>G.bind (raw_G hl hz d1 (by omega)) fun t2 d2=>G.now (d2.mono (by omega))
 ·simp only [if_neg c]
  exact G.bind (pick_G hl hz d0 (by omega) _) fun t1 d1=>G.bind (pick_G hl hz d1.2.2 (by omega) _) fun t2 d2=>G.now (d2.2.2.mono (by omega))
theorem taken_G:G (fun k=>spec_DrawTaken.f k l) (fun t=>Lg t.1):=by
 obtain ⟨t0,e0,d0⟩:∃ t,spec_l01Open.f l=some (l,t)∧Dr 0 t.1 t.2:=⟨_,rfl,by simp,by simp,by simp;omega,by simp;omega⟩
 obtain ⟨t1,et1,h1,d1⟩:=deals_G hl hz d0 (Nat.zero_le _)
 obtain ⟨t2,et2,d2⟩:=span_G hl hz d1 (by omega) t1.1
 obtain ⟨t3,et3,_⟩:=pick_G hl hz d2 (by omega) 4
 refine ⟨(t1.1,t3.1,t2.1,t2.2.1),?_,h1⟩
 have e:∀ k,spec_DrawTaken.f k l=(spec_l01Cur_deals.f k l t0.1 t0.2).bind fun bt728=>((spec_l01Cur_span.f l bt728.2.1 bt728.2.2 bt728.1).bind fun bt733=>((spec_l01Cur_pick.f l bt733.2.2.1 bt733.2.2.2 4).bind fun bt737=>(some (bt728.1,bt737.1,bt733.1,bt733.2.1)))):=by
  intro k
  have e1:spec_DrawTaken.f k l=(spec_l01Open.f l).bind fun bt724=>((spec_l01Cur_deals.f k bt724.1 bt724.2.1 bt724.2.2).bind fun bt728=>((spec_l01Cur_span.f bt724.1 bt728.2.1 bt728.2.2 bt728.1).bind fun bt733=>((spec_l01Cur_pick.f bt724.1 bt733.2.2.1 bt733.2.2.2 4).bind fun bt737=>(some (bt728.1,bt737.1,bt733.1,bt733.2.1))))):=by rw [spec_DrawTaken.f]
  rw [e1,e0]
  exact Option.bind_some _ _
 exact Ev.congr e (Ev.bind et1 (Ev.bind et2 (Ev.bind et3 (Ev.now _))))
end
theorem sTaken_ev (L:List S44) (id a b:Int) (hl:L.length≤1048576) (hx:∀ x ∈ L,x.f3.length≤1048576):Ev (fun k=>spec_Taken.f k L id a b) (if spanM L a b=true then sumM (mineM (cutM L a b) id) else (0,0,0)):=by
 unfold spec_Taken.f
 refine Ev.bind (sSpan_ev L a b hl hx) ?_
 cases h:spanM L a b with
 | false=>exact Ev.now' fun k=>by simp
 | true =>
  have h':0≤a∧a≤b∧b≤L.length:=by unfold spanM at h;simp at h;omega
  simp only [if_true]
  refine Ev.bind (sMine_ev L id a b h'.1 h'.2.1 h'.2.2 hl) ?_
  refine Ev.bind (sSum_ev _ (by have:=mine_len (cutM L a b) id;have:=cut_len L a b;omega)) ?_
  exact Ev.now _
theorem iTaken_ev (L:List S44) (id a b:Int) (hl:L.length≤1048576) (hx:∀ x ∈ L,x.f3.length≤1048576):Ev (fun k=>impl_Taken.f k L id a b) (if spanM L a b=true then sumM (mineM (cutM L a b) id) else (0,0,0)):=by
 unfold impl_Taken.f
 refine Ev.bind (iSpan_ev L a b hl hx) ?_
 cases h:spanM L a b with
 | false =>
  simp only [if_neg (show ¬ (false=true) by decide)]
  refine Ev.bind (iMine_ev [] id (by simp)) ?_
  refine Ev.bind (iSum_ev (mineM [] id) (by simp [mineM])) ?_
  exact Ev.now _
 | true =>
  simp only [if_true]
  have:=mine_len (cutM L a b) id
  have:=cut_len L a b
  refine Ev.bind (iMine_ev (cutM L a b) id (by omega)) ?_
  refine Ev.bind (iSum_ev _ (by omega)) ?_
  exact Ev.now _
theorem sMainsF_ev (L:List S44) (id a b:Int) (hl:L.length≤1048576) (hx:∀ x ∈ L,x.f3.length≤1048576) (h:spanM L a b=true):Ev (fun k=>spec_Mains.f k L id a b) (mainsM (mineM (cutM L a b) id)):=by
 unfold spec_Mains.f
 have hs:=sSpan_ev L a b hl hx
 rw [h] at hs
 refine Ev.bind hs ?_
 have h':0≤a∧a≤b∧b≤L.length:=by unfold spanM at h;simp at h;omega
 simp only [if_true]
 refine Ev.bind (sMine_ev L id a b h'.1 h'.2.1 h'.2.2 hl) ?_
 refine Ev.bind (sMains_ev _ (by have:=mine_len (cutM L a b) id;have:=cut_len L a b;omega)) ?_
 exact Ev.now _
theorem iMainsF_ev (L:List S44) (id a b:Int) (hl:L.length≤1048576) (hx:∀ x ∈ L,x.f3.length≤1048576) (h:spanM L a b=true):Ev (fun k=>impl_Mains.f k L id a b) (mainsM (mineM (cutM L a b) id)):=by
 unfold impl_Mains.f
 have hs:=iSpan_ev L a b hl hx
 rw [h] at hs
 refine Ev.bind hs ?_
 simp only [if_true]
 have:=mine_len (cutM L a b) id
 have:=cut_len L a b
 refine Ev.bind (iMine_ev (cutM L a b) id (by omega)) ?_
 refine Ev.bind (iMains_ev _ (by omega)) ?_
 exact Ev.now _
def vj (p q r j:Int):Int:=if j=0 then p else if j=1 then q else r
theorem vj_eq (p q r j:Int):laws_vec.f p q r j=some (vj p q r j):=by
 unfold laws_vec.f vj
 repeat' split
 all_goals rfl
theorem in_loop (M:List Int) (x:Int) (hl:M.length < 4611686018427387904):∀ n,n≤M.length→Ev (fun k=>laws_in.l0 k M x (n:Int)) (decide (x ∈ M.drop n)):=by
 refine down ?_ ?_
 ·refine Ev.next (f:=fun _=>some _) (Ev.now _) fun k=>?_
  simp only [laws_in.l0];rw [if_neg (by omega)];simp
 ·intro n hn ih
  by_cases h:M[n]=x
  ·refine Ev.next (f:=fun _=>some _) (Ev.now _) fun k=>?_
   simp only [laws_in.l0]
   rw [if_pos (by omega),if_pos (by omega),rd_nat,getD_lt 0 hn,if_pos h];exact congrArg some (dec_true ((mem_drop hn).2 (.inl h.symm)))
  ·refine Ev.next (Ev.to ih (dec_iff (by rw [mem_drop hn];simp only [Ne.symm h,false_or]))) fun k=>?_
   simp only [laws_in.l0]
   rw [if_pos (by omega),if_pos (by omega),rd_nat,getD_lt 0 hn,if_neg h,wrap_succ (by omega)]
theorem three_loop {L:List S44} {id a b m top t1 t2:Int} {M:List Int} (hM:M.length≤3) {p0 p1 p2 q0 q1 q2 r0 r1 r2:Int} (h1:Ev (fun k=>impl_Tops.f k L id a m) t1) (h2:Ev (fun k=>impl_Tops.f k L id m b) t2) (ht:wrap64 (t1+t2)=top)
  (hs:∀ j:Int,0≤j→j < 3→wrap64 (vj q0 q1 q2 j+vj r0 r1 r2 j)=vj p0 p1 p2 j∧¬ vj p0 p1 p2 j > top∧(j ∈ M→vj p0 p1 p2 j=top)):∀ n:Nat,n≤3→Ev (fun k=>laws_FnTakenAdds.l0 k L id a b m top M (n:Int) p0 p1 p2 q0 q1 q2 r0 r1 r2) true:=by
 refine down ?_ ?_
 ·refine Ev.next (f:=fun k=>(impl_Tops.f k L id a m).bind fun t930=>(impl_Tops.f k L id m b).bind fun t931=>some (top == wrap64 (t930+t931))) (Ev.bind h1 (Ev.bind h2 ?_)) fun k=>?_
  ·exact Ev.now' fun k=>by rw [ht,beq_self_eq_true]
  ·simp only [laws_FnTakenAdds.l0];rw [if_neg (by omega)]
 ·intro n hn ih
  obtain ⟨e1,e2,e3⟩:=hs (n:Int) (by omega) (by omega)
  have hi:=in_loop M (n:Int) (by omega) 0 (by omega)
  refine Ev.next (f:=fun k=>(laws_in.f k M (n:Int)).bind fun t936=>(if t936=true then (if vj p0 p1 p2 (n:Int)=top then (laws_FnTakenAdds.l0 k L id a b m top M ((n+1:Nat):Int) p0 p1 p2 q0 q1 q2 r0 r1 r2) else (some false)) else (laws_FnTakenAdds.l0 k L id a b m top M ((n+1:Nat):Int) p0 p1 p2 q0 q1 q2 r0 r1 r2))) ?_ fun k=>?_
  ·refine Ev.bind (by simpa [laws_in.f] using hi) ?_
   by_cases hm:(n:Int) ∈ M
   ·rw [decide_eq_true hm]
    simp only [if_true,if_pos (e3 hm)]
    exact ih
   ·rw [decide_eq_false hm]
    simp only [if_neg (show ¬ (false=true) by decide)]
    exact ih
  ·simp only [laws_FnTakenAdds.l0,vj_eq,Option.bind_some,wrap_succ (show n < 4611686018427387904 by omega)]
   rw [if_pos (by omega),if_pos e1,if_neg e2]
theorem lpick_G {l:List Int} (hl:AllB l) (hz:l.length≤1048576) (q:Int) (h1:1≤q):G (fun k=>laws_pick.f k l 6 q) (fun t=>0≤t∧t < q):=by
 have j:∀ z:Bool,(z=false→0 < l.length)→G (fun k=>laws_pick.j0 k l 6 q z) (fun t=>0≤t∧t < q):=by
  intro z hz0
  refine G.nx1 (fun k=>laws_pick.j0.eq_2 ..) ?_
  cases z with
  | true=>simp only [if_true];exact G.now ⟨Int.le_refl 0,by omega⟩
  | false =>
   have h0:=hz0 rfl
   simp only [if_neg (show ¬ (false=true) by decide)]
   have step:∀ (m:Nat) (h:Int),m < 3→0≤h→h≤100000→(∀ h':Int,0≤h'→h'≤31 * h+255→G (fun k=>laws_pick.l0 k l 6 q h' ((m+1:Nat):Int)) (fun t=>0≤t∧t < q))→G (fun k=>laws_pick.l0 k l 6 q h (m:Int)) (fun t=>0≤t∧t < q):=by
    intro m h hm hh hb next
    refine G.nx1 (fun k=>laws_pick.l0.eq_2 ..) ?_
    have w1:wrap64 (6+(m:Int))=6+(m:Int):=wrap_id (by omega) (by omega)
    have e5:Int.tmod (6+(m:Int)) (l.length:Int)=(6+(m:Int)) % (l.length:Int):=Int.tmod_eq_emod_of_nonneg (by omega)
    have e6:=Int.emod_nonneg (6+(m:Int)) (show (l.length:Int)≠0 by omega)
    have e7:=Int.emod_lt_of_pos (6+(m:Int)) (show (0:Int) < (l.length:Int) by omega)
    obtain ⟨i,hi⟩:∃ i:Nat,(6+(m:Int)) % (l.length:Int)=(i:Int):=⟨((6+(m:Int)) % (l.length:Int)).toNat,by omega⟩
    have hb2:=allB_get hl (show i < l.length by omega)
    simp only [if_pos (show (m:Int) < 3 by omega),if_neg (show ¬ ((l.length:Int)=0) by omega),w1,e5,hi,if_pos (show (0:Int)≤(i:Int) by omega),if_pos (show (i:Int) < (l.length:Int) by omega),rd_nat,wrap_id (x:=31 * h) (by omega) (by omega),wrap_id (x:=l.getD i 0) (by omega) (by omega),wrap_id (x:=31 * h+l.getD i 0) (by omega) (by omega),wrap_succ (show m < 4611686018427387904 by omega)]
    exact next _ (by omega) (by omega)
   refine step 0 0 (by omega) (by omega) (by omega) fun a1 b1 c1=>step 1 a1 (by omega) b1 (by omega) fun a2 b2 c2=>step 2 a2 (by omega) b2 (by omega) fun a3 b3 c3=>?_
   refine G.nx1 (fun k=>laws_pick.l0.eq_2 ..) ?_
   simp only [if_neg (show ¬ (((2+1:Nat):Int) < 3) by omega),if_neg (show ¬ (q=0) by omega),wrap_id (x:=a3+6) (by omega) (by omega),Int.tmod_eq_emod_of_nonneg (show 0≤a3+6 by omega)]
   exact G.now ⟨Int.emod_nonneg _ (by omega),Int.emod_lt_of_pos _ (by omega)⟩
 unfold laws_pick.f
 by_cases h:(l.length:Int)=0
 ·simp only [if_pos h];exact j true (fun h=>by cases h)
 ·simp only [if_neg h];exact j _ (fun _=>by omega)
theorem FnTakenAdds:laws_FnTakenAdds.Pure:=by
 intro l0 _ _ hw
 refine Ev.rounds ?_
 have hl:AllB l0:=fun x hx=>byte_wf (hw x hx)
 unfold laws_FnTakenAdds.f laws_big.f
 simp only [Option.bind_some]
 by_cases hz:(l0.length:Int) > 1048576
 ·exact Ev.now' fun k=>by rw [decide_eq_true hz,if_pos rfl]
 ·simp only [decide_eq_false hz,if_neg (show ¬ (false=true) by decide)]
  obtain ⟨⟨L,id,a,b⟩,et,hL,hx⟩:=taken_G hl (by omega)
  simp only at hL hx
  refine Ev.bind et ?_
  simp only
  refine Ev.bind (sDeals_ev L hL hx) ?_
  have no:spanM L a b=false→Ev (fun k=>laws_FnTakenAdds.j0 k l0 L id a b true) true:=by
   intro h
   have h1:=iTaken_ev L id a b hL hx
   have h2:=iTops_ev L id a b hL hx
   rw [if_neg (by rw [h];decide)] at h1 h2
   refine Ev.next (f:=fun k=>(impl_Taken.f k L id a b).bind fun bt903=>(if (bt903.1 == 0 && (bt903.2.1 == 0 && (bt903.2.2 == 0)))=true then ((impl_Tops.f k L id a b).bind fun t906=>(some (t906 == (-1)))) else (some false))) (Ev.bind h1 ?_) fun k=>by simp only [laws_FnTakenAdds.j0,if_true]
   simp only [beq_self_eq_true,Bool.and_self,if_true]
   exact Ev.bind h2 (f:=fun _ (t:Int)=>some (t == (-1))) (Ev.now' fun _=>rfl)
  have yes:spanM L a b=true→Ev (fun k=>laws_FnTakenAdds.j0 k l0 L id a b false) true:=by
   intro h
   have hd:dealsOkM L=true:=by unfold spanM at h;rw [Bool.and_eq_true] at h;exact h.2
   have h':0≤a∧a≤b∧b≤L.length:=by unfold spanM at h;simp at h;omega
   have h200:=dealsOk_len hd
   obtain ⟨t,ep,p0,p1⟩:=lpick_G hl (by omega) (b - a+1) (by omega)
   have hsp:∀ u v:Int,0≤u→u≤v→v≤L.length→spanM L u v=true:=by
    intro u v h1 h2 h3
    unfold spanM
    rw [decide_eq_true ⟨h1,h2,h3⟩,hd];rfl
   obtain ⟨m,hm⟩:∃ m,m=a+t:=⟨_,rfl⟩
   have w0:wrap64 (b - a)=b - a:=wrap_id (by omega) (by omega)
   have w1:wrap64 (b - a+1)=b - a+1:=wrap_id (by omega) (by omega)
   have w2:wrap64 (a+t)=m:=by rw [hm];exact wrap_id (by omega) (by omega)
   have s1:=hsp a m (by omega) (by omega) (by omega)
   have s2:=hsp m b (by omega) (by omega) (by omega)
   have cut:=mine_cut L id a m b (by omega) (by omega) (by omega)
   have hch:∀ u v:Int,∀ x ∈ mineM (cutM L u v) id,Ch x:=by
    intro u v x hx
    refine ch_of hd x ?_
    have:=(List.mem_filter.1 hx).1
    unfold cutM at this
    exact List.mem_of_mem_take (List.mem_of_mem_drop this)
   have hlen:∀ u v:Int,(mineM (cutM L u v) id).length≤200:=fun u v=>by have:=mine_len (cutM L u v) id;have:=cut_len L u v;omega
   have T:=iTaken_ev L id a b hL hx
   have A:=iTaken_ev L id a m hL hx
   have B:=iTaken_ev L id m b hL hx
   have P:=iTops_ev L id a b hL hx
   have P1:=iTops_ev L id a m hL hx
   have P2:=iTops_ev L id m b hL hx
   have S:=sTaken_ev L id a b hL hx
   rw [if_pos h,sumM_eq (hch a b) (hlen a b)] at T S
   rw [if_pos s1,sumM_eq (hch a m) (hlen a m)] at A
   rw [if_pos s2,sumM_eq (hch m b) (hlen m b)] at B
   rw [if_pos h,topsM_eq (hch a b) (hlen a b)] at P
   rw [if_pos s1,topsM_eq (hch a m) (hlen a m)] at P1
   rw [if_pos s2,topsM_eq (hch m b) (hlen m b)] at P2
   have M1:=iMainsF_ev L id a b hL hx h
   have M2:=sMainsF_ev L id a b hL hx h
   have c1:=hch a m
   have c2:=hch m b
   have c3:=hch a b
   have n1:=hlen a m
   have n2:=hlen m b
   have n3:=hlen a b
   have hmem:∀ j:Int,j ∈ mainsM (mineM (cutM L a b) id)→sumI (fun x=>ar3 x.f2.f0 x.f2.f1 x.f2.f2 j) (mineM (cutM L a b) id)=sumI cft (mineM (cutM L a b) id):=fun j hj=>mains_sum c3 hj
   have hml:=mains_len (mineM (cutM L a b) id)
   generalize mineM (cutM L a m) id=X at *
   generalize mineM (cutM L m b) id=Y at *
   generalize mineM (cutM L a b) id=Z at *
   have ad:∀ f,sumI f Z=sumI f X+sumI f Y:=fun f=>by rw [cut,sumI_append]
   have bd:∀ f:S44→Int,(∀ x,Ch x→0≤f x∧f x≤2000)→wrap64 (sumI f X+sumI f Y)=sumI f Z:=by
    intro f hf
    have b1:=sumI_bound f X fun x hx=>hf x (c1 x hx)
    have b2:=sumI_bound f Y fun x hx=>hf x (c2 x hx)
    rw [wrap_id (by omega) (by omega),ad]
   have f0:∀ x,Ch x→0≤cf0 x∧cf0 x≤2000:=fun x h=>by have:=h.1;unfold cf0;omega
   have f1:∀ x,Ch x→0≤cf1 x∧cf1 x≤2000:=fun x h=>by have:=h.2.1;unfold cf1;omega
   have f2:∀ x,Ch x→0≤cf2 x∧cf2 x≤2000:=fun x h=>by have:=h.2.2;unfold cf2;omega
   have l0':=sumI_le cf0 cft Z fun x _=>(cft_ge x).1
   have l1':=sumI_le cf1 cft Z fun x _=>(cft_ge x).2.1
   have l2':=sumI_le cf2 cft Z fun x _=>(cft_ge x).2.2
   have main:=three_loop (id:=id) (a:=a) (b:=b) (m:=m) hml P1 P2 (bd cft fun x h=>cft_bd h) (p0:=sumI cf0 Z) (p1:=sumI cf1 Z) (p2:=sumI cf2 Z) (q0:=sumI cf0 X) (q1:=sumI cf1 X) (q2:=sumI cf2 X) (r0:=sumI cf0 Y) (r1:=sumI cf1 Y) (r2:=sumI cf2 Y) (by
    intro j j0 j3
    have e:j=0∨j=1∨j=2:=by omega
    rcases e with rfl | rfl | rfl
    ·exact ⟨bd cf0 f0,by show ¬ sumI cf0 Z > _;omega,fun hj=>hmem 0 hj⟩
    ·exact ⟨bd cf1 f1,by show ¬ sumI cf1 Z > _;omega,fun hj=>hmem 1 hj⟩
    ·exact ⟨bd cf2 f2,by show ¬ sumI cf2 Z > _;omega,fun hj=>hmem 2 hj⟩) 0 (by omega)
   refine Ev.next (f:=fun k=>(laws_pick.f k l0 6 (b - a+1)).bind fun t907=>(impl_Taken.f k L id a b).bind fun bt908=>(impl_Taken.f k L id a (wrap64 (a+t907))).bind fun bt912=>(impl_Taken.f k L id (wrap64 (a+t907)) b).bind fun bt916=>(impl_Tops.f k L id a b).bind fun t920=>(impl_Mains.f k L id a b).bind fun t921=>(spec_Taken.f k L id a b).bind fun bt924=>(if (!(bt908.1 == bt924.1) || (!(bt908.2.1 == bt924.2.1) || (!(bt908.2.2 == bt924.2.2))))=true then (laws_FnTakenAdds.j1 k L id a b (wrap64 (a+t907)) t920 t921 true bt908.1 bt908.2.1 bt908.2.2 bt912.1 bt912.2.1 bt912.2.2 bt916.1 bt916.2.1 bt916.2.2) else ((spec_Mains.f k L id a b).bind fun t927=>(laws_FnTakenAdds.j1 k L id a b (wrap64 (a+t907)) t920 t921 ((t921.length:Int) != (t927.length:Int)) bt908.1 bt908.2.1 bt908.2.2 bt912.1 bt912.2.1 bt912.2.2 bt916.1 bt916.2.1 bt916.2.2)))) ?_ fun k=>by simp only [laws_FnTakenAdds.j0,w0,w1,if_neg (show ¬ (false=true) by decide)]
   refine Ev.bind ep ?_
   simp only [w2]
   refine Ev.bind T (Ev.bind A (Ev.bind B (Ev.bind P (Ev.bind M1 (Ev.bind S ?_)))))
   simp only [beq_self_eq_true,Bool.not_true,Bool.or_self,if_neg (show ¬ (false=true) by decide)]
   refine Ev.bind M2 ?_
   simp only [bne_self_eq_false]
   refine Ev.next main fun k=>?_
   simp only [laws_FnTakenAdds.j1,if_neg (show ¬ (false=true) by decide)];rfl
  cases hd:dealsOkM L with
  | false =>
   simp only [if_neg (show ¬ (false=true) by decide)]
   exact no (by unfold spanM;rw [hd];simp)
  | true =>
   simp only [if_true]
   by_cases h1:a < 0
   ·simp only [if_pos h1]
    exact no (by unfold spanM;rw [decide_eq_false (by omega)];rfl)
   ·simp only [if_neg h1]
    by_cases h2:a > b
    ·simp only [if_pos h2]
     exact no (by unfold spanM;rw [decide_eq_false (by omega)];rfl)
    ·simp only [if_neg h2]
     by_cases h3:b > (L.length:Int)
     ·rw [decide_eq_true h3]
      exact no (by unfold spanM;rw [decide_eq_false (by omega)];rfl)
     ·rw [decide_eq_false h3]
      exact yes (by unfold spanM;rw [decide_eq_true (by omega),hd];rfl)
end Go.Proofs.Ytpkdkhhknmlpjaa.Pure
