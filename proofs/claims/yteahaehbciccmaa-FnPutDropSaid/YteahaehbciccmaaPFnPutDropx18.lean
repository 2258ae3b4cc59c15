-- by a program of this session's, over the kit's words
import Derived.Test.YteahaehbciccmaaPZFnPutDrop
import Derived.Test.YteahaehbciccmaaPFnPutDropx0
import Derived.Test.YteahaehbciccmaaPFnPutDropx16
import Derived.Test.YteahaehbciccmaaPFnPutDropx17
namespace Go.Proofs.Yteahaehbciccmaa.PFnPutDrop
open Go.RowKit Go.Proofs.YteahaehbciccmaaW.PrintWords Go.Proofs.YteahaehbciccmaaW.PrintLast Go.Proofs.YteahaehbciccmaaW.PrintMore Go.Proofs.YteahaehbciccmaaV Go.Proofs.Yteahaehbciccmaa.ZFnPutDrop
open Go.Value renaming int → I, slice → Y
open Go.IntKind renaming i64 → L
open Aside0 renaming mk → D
open Option renaming bind_eq_some_iff → bs_
attribute [local go_sem] qad_ qab_ qak_ qaj_ q4_ q3_ qac_ qaa_
set_option linter.unusedVariables false
set_option linter.unusedSimpArgs false
set_option maxHeartbeats 8000000
set_option maxRecDepth 100000
def impl_hashOf.l0:Nat→Int→List Int→Int→Int→Option (Int)
 | 0,_,_,_,_=>none
 | k+1,x6,b,c,a=>if a < c then (if 0≤a then (if a < (b.length:Int) then (impl_hashOf.l0 k (Int.tmod (wrap64 ((Go.bits .xor .i64 x6 (wrap64 (rd b a))) * 16777619)) 4294967296) b c (wrap64 (a+1))) else (none)) else (none)) else (some (Go.bits .xor .i64 x6 (wrap64 (Int.tdiv x6 65536))))
def impl_hashOf.f (k:Nat) (a0 c a d e g h i j l m n o p q:Int):Option (Int):=(impl_AddrBytes.f k a d e g h).bind fun r=>((impl_AddrBytes.f k i j l m n).bind fun s=>((impl_Put16.f k p).bind fun t=>((impl_Put16.f k q).bind fun u=>((slices_Concat_byte_byte.f k (([(([(c) % 256,(a) % 256]:List Int)),r,s,(([(o) % 256]:List Int)),t,u]:List (List Int)))).bind fun b=>(impl_hashOf.l0 k a0 b (b.length:Int) 0)))))
def impl_hashOf.T1:Bool×List (List Nat×List Nat):=(true,[([],[]),([0],[0]),([1],[1]),([],[]),([3],[3]),([4],[4]),([5],[5]),([6],[6]),([2,7],[2,7]),([],[]),([9],[9]),([10],[10]),([11],[11]),([],[]),([13],[13]),([14],[14]),([15,12],[15]),([],[]),([17],[17]),([18],[18]),([19],[19]),([20],[20]),([],[]),([22],[22]),([23],[23]),([24,16],[24]),([],[]),([26],[26]),([27],[27]),([28,25],[28]),([8,12,16,21,25,29],[8,12,16,21,25,29]),([30,29],[30]),([31,31,0,1,2,3,4,5,6,7,8,9,10,11,12,13,14,15,16,17,18,19,20,21,22,23,24,25,26,27,28,29,30,31],[31])])
def impl_hashOf.B1:List Nat:=[0,1,3,0,8,24,56,120,255,0,512,1536,3584,0,8192,24576,65024,0,131072,393216,917504,1966080,0,4194304,12582912,29490688,0,67108864,201326592,532807168,1073741823,2147483647,4294967295]
theorem impl_hashOf.tab1:rtab .any (opsOf Try.f39 1)=impl_hashOf.T1:=by kernel_rfl
theorem impl_hashOf.bits1:q8_ impl_hashOf.T1.2 impl_hashOf.B1=true:=by kernel_rfl
theorem impl_hashOf.calls (k:Nat) (a0 m d q s u x y z A B E l o p r:Int) (w:World) (h:impl_hashOf.f k a0 m d q s u x y z A B E l o p=some r) :
  Calls Try.prog 39 #[I L a0,.agg #[I L m,I L d,I L q,I L s,I L u,I L x,I L y,I L z,I L A,I L B,I L E,I L l,I L o,I L p]] w fun e w'=>e=.returned (I L r)∧Below w.heap.size w w':=by
 have hu32:=Try.underlying32
 have hu28:=Try.underlying28
 have HB:=D (Below.refl w.heap.size w)
 have H:((impl_AddrBytes.f k d q s u x).bind fun Oc=>((impl_AddrBytes.f k y z A B E).bind fun Uc=>((impl_Put16.f k o).bind fun Kc=>((impl_Put16.f k p).bind fun Mc=>((slices_Concat_byte_byte.f k (([(([(m) % 256,(d) % 256]:List Int)),Oc,Uc,(([(l) % 256]:List Int)),Kc,Mc]:List (List Int)))).bind fun Ub=>(impl_hashOf.l0 k a0 Ub (Ub.length:Int) 0))))))=some r:=h
 clear h
 obtain ⟨P,an⟩:∃ y_:List Int,y_=(([(m) % 256,(d) % 256]:List Int)):=⟨_,rfl⟩
 replace H:((impl_AddrBytes.f k d q s u x).bind fun Oc=>((impl_AddrBytes.f k y z A B E).bind fun Uc=>((impl_Put16.f k o).bind fun Kc=>((impl_Put16.f k p).bind fun Mc=>((slices_Concat_byte_byte.f k (([P,Oc,Uc,(([(l) % 256]:List Int)),Kc,Mc]:List (List Int)))).bind fun Ub=>(impl_hashOf.l0 k a0 Ub (Ub.length:Int) 0))))))=some r:=by first|(rw [an];with_reducible exact H)|(have H2_:=(Option.bind_some _ _).symm.trans H;rw [an];with_reducible exact H2_)|(have H2_:=(Option.bind_some _ _).symm.trans H;with_reducible exact H2_)|with_reducible exact H|(rw [an];exact H)|exact H
 have aD:=D an
 clear an
 obtain ⟨Oc,aE,H⟩:=bs_.mp H
 (try dsimp only at H)
 have A3:=D aE
 clear aE
 obtain ⟨Uc,aF,H⟩:=bs_.mp H
 (try dsimp only at H)
 have A4:=D aF
 clear aF
 obtain ⟨U,ao⟩:∃ y_:List Int,y_=(([(l) % 256]:List Int)):=⟨_,rfl⟩
 replace H:((impl_Put16.f k o).bind fun Kc=>((impl_Put16.f k p).bind fun Mc=>((slices_Concat_byte_byte.f k (([P,Oc,Uc,U,Kc,Mc]:List (List Int)))).bind fun Ub=>(impl_hashOf.l0 k a0 Ub (Ub.length:Int) 0))))=some r:=by first|(rw [ao];with_reducible exact H)|(have H2_:=(Option.bind_some _ _).symm.trans H;rw [ao];with_reducible exact H2_)|(have H2_:=(Option.bind_some _ _).symm.trans H;with_reducible exact H2_)|with_reducible exact H|(rw [ao];exact H)|exact H
 have aG:=D ao
 clear ao
 obtain ⟨Kc,aH,H⟩:=bs_.mp H
 (try dsimp only at H)
 have A5:=D aH
 clear aH
 obtain ⟨Mc,aI,H⟩:=bs_.mp H
 (try dsimp only at H)
 have A6:=D aI
 clear aI
 obtain ⟨ap,aq⟩:∃ y_:List (List Int),y_=(([P,Oc,Uc,U,Kc,Mc]:List (List Int))):=⟨_,rfl⟩
 replace H:((slices_Concat_byte_byte.f k ap).bind fun Ub=>(impl_hashOf.l0 k a0 Ub (Ub.length:Int) 0))=some r:=by first|(rw [aq];with_reducible exact H)|(have H2_:=(Option.bind_some _ _).symm.trans H;rw [aq];with_reducible exact H2_)|(have H2_:=(Option.bind_some _ _).symm.trans H;with_reducible exact H2_)|with_reducible exact H|(rw [aq];exact H)|exact H
 have aJ:=D aq
 clear aq
 obtain ⟨Ub,aK,H⟩:=bs_.mp H
 (try dsimp only at H)
 have A7:=D aK
 clear aK
 have H':=D H
 clear H
 go_enter Try.func39,Try.ntmps39
 try go_wp2_with (first|((with_reducible refine gld_ 28 rfl ?_);(first|refine la28o1_ ?_|refine la28o6_ ?_))|((with_reducible refine gld_ 3 rfl ?_);refine lc3_ ?_)|((with_reducible refine gst_ 32 rfl ?_);refine sa32_ ?_)|((with_reducible refine gld_ 32 rfl ?_);refine la32_ ?_)|((with_reducible refine qg_ (N:=3) rfl ?_);refine bx_ (N:=3) (cs:=#[I L m,I L d,I L q,I L s,I L u,I L x,I L y,I L z,I L A,I L B,I L E,I L l,I L o,I L p]) (t:=32) ?_;intro Ka hg w8 hbox hb;have n_:=an_ (qc_ (pB_ HB.out) hb)<|an_ (hbox)<|an_ (bg_ hg (pB_ HB.out):w.heap.size≤Ka)<|D (bg_ hg (pB_ HB.out):w.heap.size≤Ka);clear HB;obtain ⟨HB,Ja,Jh,Kh⟩:=n_;clear hb hbox hg))
 have n_:=an_ (qt_ Ja.out)<|D (qr_ HB.out)
 clear Ja HB
 obtain ⟨Ja,HB⟩:=n_
 refine qaw_ (n:=33) (S:=fun w'=>True) (ds:=[]) #[false,false,false,false,false,false,false,false,false,false,false,false,false,false,false,false,false,false,false,false,false,false,false,false,false,false,false,false,false,false,false,false,false] (by kernel_rfl) rfl rfl trivial (fun hHeld=>?_);refine q6_ impl_hashOf.tab1 impl_hashOf.bits1 (fun HT_ HW_=>?_)
 generalize w8.drew=w9 at Ja HB hHeld ⊢
 refine pure_ (i:=0) (N:=some 9) (v:=?_) (a':=?_) #[true,false,false,false,false,false,false,false,false,false,false,false,false,false,false,false,false,false,false,false,false,false,false,false,false,false,false,false,false,false,false,false,false] rfl rfl (qap_ HT_.out (by kernel_rfl)) (fun _ _ _ h=>h) (Or.inl ⟨by rfl,?_⟩) ?_ ?_
 rotate_left
 ·intro w'
  go_simp
  with_reducible rfl
 rotate_left
 ·simp only [Act.put,List.setIfInBounds_toArray,List.set_cons_zero,List.set_cons_succ,i64_w,i32_w]
  rfl
 refine pure_ (i:=3) (N:=some 12) (v:=?_) (a':=?_) #[true,false,false,true,false,false,false,false,false,false,false,false,false,false,false,false,false,false,false,false,false,false,false,false,false,false,false,false,false,false,false,false,false] rfl rfl (qap_ HT_.out (by kernel_rfl)) (fun _ _ _ h=>h) (Or.inl ⟨by rfl,?_⟩) ?_ ?_
 rotate_left
 ·intro w'
  go_simp
  with_reducible rfl
 rotate_left
 ·simp only [Act.put,List.setIfInBounds_toArray,List.set_cons_zero,List.set_cons_succ,i64_w,i32_w]
  rfl
 refine pure_ (i:=4) (N:=some 13) (v:=?_) (a':=?_) #[true,false,false,true,true,false,false,false,false,false,false,false,false,false,false,false,false,false,false,false,false,false,false,false,false,false,false,false,false,false,false,false,false] rfl rfl (qap_ HT_.out (by kernel_rfl)) (fun _ _ _ h=>h) (Or.inl ⟨by rfl,?_⟩) ?_ ?_
 rotate_left
 ·intro w'
  go_simp
  with_reducible rfl
 rotate_left
 ·simp only [Act.put,List.setIfInBounds_toArray,List.set_cons_zero,List.set_cons_succ,i64_w,i32_w]
  rfl
 refine pure_ (i:=5) (N:=some 14) (v:=?_) (a':=?_) #[true,false,false,true,true,true,false,false,false,false,false,false,false,false,false,false,false,false,false,false,false,false,false,false,false,false,false,false,false,false,false,false,false] rfl rfl (qap_ HT_.out (by kernel_rfl)) (fun _ _ _ h=>h) (Or.inl ⟨by rfl,?_⟩) ?_ ?_
 rotate_left
 ·intro w'
  go_simp
  with_reducible rfl
 rotate_left
 ·simp only [Act.put,List.setIfInBounds_toArray,List.set_cons_zero,List.set_cons_succ,i64_w,i32_w]
  rfl
 refine pure_ (i:=9) (N:=some 18) (v:=?_) (a':=?_) #[true,false,false,true,true,true,false,false,false,true,false,false,false,false,false,false,false,false,false,false,false,false,false,false,false,false,false,false,false,false,false,false,false] rfl rfl (qap_ HT_.out (by kernel_rfl)) (fun _ _ _ h=>h) (Or.inl ⟨by rfl,?_⟩) ?_ ?_
 rotate_left
 ·intro w'
  go_simp
  with_reducible rfl
 rotate_left
 ·simp only [Act.put,List.setIfInBounds_toArray,List.set_cons_zero,List.set_cons_succ,i64_w,i32_w]
  rfl
 refine pure_ (i:=10) (N:=some 19) (v:=?_) (a':=?_) #[true,false,false,true,true,true,false,false,false,true,true,false,false,false,false,false,false,false,false,false,false,false,false,false,false,false,false,false,false,false,false,false,false] rfl rfl (qap_ HT_.out (by kernel_rfl)) (fun _ _ _ h=>h) (Or.inl ⟨by rfl,?_⟩) ?_ ?_
 rotate_left
 ·intro w'
  go_simp
  with_reducible rfl
 rotate_left
 ·simp only [Act.put,List.setIfInBounds_toArray,List.set_cons_zero,List.set_cons_succ,i64_w,i32_w]
  rfl
 refine pure_ (i:=13) (N:=some 22) (v:=?_) (a':=?_) #[true,false,false,true,true,true,false,false,false,true,true,false,false,true,false,false,false,false,false,false,false,false,false,false,false,false,false,false,false,false,false,false,false] rfl rfl (qap_ HT_.out (by kernel_rfl)) (fun _ _ _ h=>h) (Or.inl ⟨by rfl,?_⟩) ?_ ?_
 rotate_left
 ·intro w'
  go_simp
  with_reducible rfl
 rotate_left
 ·simp only [Act.put,List.setIfInBounds_toArray,List.set_cons_zero,List.set_cons_succ,i64_w,i32_w]
  rfl
 refine pure_ (i:=14) (N:=some 23) (v:=?_) (a':=?_) #[true,false,false,true,true,true,false,false,false,true,true,false,false,true,true,false,false,false,false,false,false,false,false,false,false,false,false,false,false,false,false,false,false] rfl rfl (qap_ HT_.out (by kernel_rfl)) (fun _ _ _ h=>h) (Or.inl ⟨by rfl,?_⟩) ?_ ?_
 rotate_left
 ·intro w'
  go_simp
  with_reducible rfl
 rotate_left
 ·simp only [Act.put,List.setIfInBounds_toArray,List.set_cons_zero,List.set_cons_succ,i64_w,i32_w]
  rfl
 refine pure_ (i:=17) (N:=some 26) (v:=?_) (a':=?_) #[true,false,false,true,true,true,false,false,false,true,true,false,false,true,true,false,false,true,false,false,false,false,false,false,false,false,false,false,false,false,false,false,false] rfl rfl (qap_ HT_.out (by kernel_rfl)) (fun _ _ _ h=>h) (Or.inl ⟨by rfl,?_⟩) ?_ ?_
 rotate_left
 ·intro w'
  go_simp
  with_reducible rfl
 rotate_left
 ·simp only [Act.put,List.setIfInBounds_toArray,List.set_cons_zero,List.set_cons_succ,i64_w,i32_w]
  rfl
 refine pure_ (i:=18) (N:=some 27) (v:=?_) (a':=?_) #[true,false,false,true,true,true,false,false,false,true,true,false,false,true,true,false,false,true,true,false,false,false,false,false,false,false,false,false,false,false,false,false,false] rfl rfl (qap_ HT_.out (by kernel_rfl)) (fun _ _ _ h=>h) (Or.inl ⟨by rfl,?_⟩) ?_ ?_
 rotate_left
 ·intro w'
  go_simp
  with_reducible rfl
 rotate_left
 ·simp only [Act.put,List.setIfInBounds_toArray,List.set_cons_zero,List.set_cons_succ,i64_w,i32_w]
  rfl
 refine pure_ (i:=22) (N:=some 31) (v:=?_) (a':=?_) #[true,false,false,true,true,true,false,false,false,true,true,false,false,true,true,false,false,true,true,false,false,false,true,false,false,false,false,false,false,false,false,false,false] rfl rfl (qap_ HT_.out (by kernel_rfl)) (fun _ _ _ h=>h) (Or.inl ⟨by rfl,?_⟩) ?_ ?_
 rotate_left
 ·intro w'
  go_simp
  with_reducible rfl
 rotate_left
 ·simp only [Act.put,List.setIfInBounds_toArray,List.set_cons_zero,List.set_cons_succ,i64_w,i32_w]
  rfl
 refine pure_ (i:=23) (N:=some 32) (v:=?_) (a':=?_) #[true,false,false,true,true,true,false,false,false,true,true,false,false,true,true,false,false,true,true,false,false,false,true,true,false,false,false,false,false,false,false,false,false] rfl rfl (qap_ HT_.out (by kernel_rfl)) (fun _ _ _ h=>h) (Or.inl ⟨by rfl,?_⟩) ?_ ?_
 rotate_left
 ·intro w'
  go_simp
  with_reducible rfl
 rotate_left
 ·simp only [Act.put,List.setIfInBounds_toArray,List.set_cons_zero,List.set_cons_succ,i64_w,i32_w]
  rfl
 refine pure_ (i:=26) (N:=some 35) (v:=?_) (a':=?_) #[true,false,false,true,true,true,false,false,false,true,true,false,false,true,true,false,false,true,true,false,false,false,true,true,false,false,true,false,false,false,false,false,false] rfl rfl (qap_ HT_.out (by kernel_rfl)) (fun _ _ _ h=>h) (Or.inl ⟨by rfl,?_⟩) ?_ ?_
 rotate_left
 ·intro w'
  go_simp
  with_reducible rfl
 rotate_left
 ·simp only [Act.put,List.setIfInBounds_toArray,List.set_cons_zero,List.set_cons_succ,i64_w,i32_w]
  rfl
 refine pure_ (i:=27) (N:=some 36) (v:=?_) (a':=?_) #[true,false,false,true,true,true,false,false,false,true,true,false,false,true,true,false,false,true,true,false,false,false,true,true,false,false,true,true,false,false,false,false,false] rfl rfl (qap_ HT_.out (by kernel_rfl)) (fun _ _ _ h=>h) (Or.inl ⟨by rfl,?_⟩) ?_ ?_
 rotate_left
 ·intro w'
  go_simp
  with_reducible rfl
 rotate_left
 ·simp only [Act.put,List.setIfInBounds_toArray,List.set_cons_zero,List.set_cons_succ,i64_w,i32_w]
  rfl
 refine inv_at [1,2,6,7,8,11,12,15,16,19,20,21,24,25,28,29,30,31,32] (fun bn b a w'=>∃ (Ma:Value) (Xa:Value) (Jb:Value) (Oa:Value) (Kb:Value) (Mb:Value) (Ob:Value) (Ua:Value) (c:Value),a=qan_ bn b [(1,10,I L m),(2,11,.int .u8 ((m) % 256)),(6,15,I L d),(7,16,.int .u8 ((d) % 256)),(8,17,Ma),(11,20,.agg #[I L d,I L q,I L s,I L u,I L x]),(12,21,Xa),(15,24,.agg #[I L y,I L z,I L A,I L B,I L E]),(16,25,Jb),(19,28,I L l),(20,29,.int .u8 ((l) % 256)),(21,30,Oa),(24,33,I L o),(25,34,Kb),(28,37,I L p),(29,38,Mb),(30,39,Ob),(31,40,Ua),(32,5,c)]∧(w'.heap[Ka]?=some (.cells #[I L m,I L d,I L q,I L s,I L u,I L x,I L y,I L z,I L A,I L B,I L E,I L l,I L o,I L p] 32 (0,0)))∧(Below w.heap.size w w')∧(b 8=true→b 30=false→Kd.R (Kd.int .u8) 5 w' w.heap.size (fun _=>True) Ma P)∧(b 12=true→b 30=false→Kd.R (Kd.int .u8) 5 w' w.heap.size (fun _=>True) Xa Oc)∧(b 16=true→b 30=false→Kd.R (Kd.int .u8) 5 w' w.heap.size (fun _=>True) Jb Uc)∧(b 21=true→b 30=false→Kd.R (Kd.int .u8) 5 w' w.heap.size (fun _=>True) Oa U)∧(b 25=true→b 30=false→Kd.R (Kd.int .u8) 5 w' w.heap.size (fun _=>True) Kb Kc)∧(b 29=true→b 30=false→Kd.R (Kd.int .u8) 5 w' w.heap.size (fun _=>True) Mb Mc)∧(b 30=true→Kd.N (Kd.slice 5 (Kd.int .u8)) 22 w' w.heap.size (fun k_=>k_≠Ka) Ob ap)∧(b 31=true→Kd.R (Kd.int .u8) 5 w' w.heap.size (fun _=>True) Ua Ub)∧(b 32=true→(c:Value)=Ua)) HT_.out HW_.out (by kernel_rfl) (by kernel_rfl) ?_ ?_ ?_
 ·exact ⟨.bool false,.bool false,.bool false,.bool false,.bool false,.bool false,.bool false,.bool false,.bool false,by simp only [qan_,Bool.false_eq_true,if_false],Ja.out,HB.out,fun h_=>absurd h_ (by decide),fun h_=>absurd h_ (by decide),fun h_=>absurd h_ (by decide),fun h_=>absurd h_ (by decide),fun h_=>absurd h_ (by decide),fun h_=>absurd h_ (by decide),fun h_=>absurd h_ (by decide),fun h_=>absurd h_ (by decide),fun h_=>absurd h_ (by decide)⟩
 ·skip
  clear Ja HB;refine qp_ ?_ ?_
  ·rintro b a w' ⟨Ma,Xa,Jb,Oa,Kb,Mb,Ob,Ua,c,ha,Q_BK799,Q_HB,Q_HO802,Q_HO805,Q_HO808,Q_HO811,Q_HO814,Q_HO817,Q_HO820,Q_HO823,Q_X32_⟩ hb_ hon hoff
   refine ⟨_,rfl,fun K hK=>?_⟩
   have e9:a.tmps[9]?=some (.pointer (some ⟨Ka,0,none⟩)):=by rw [ha];exact (qx_ rfl).trans rfl
   replace ha:=D ha;have Ja:=D Q_BK799;have HB:=D Q_HB;have X:w'.cell? ⟨Ka,0,none⟩=some (I L m):=bc_ Ja.out 0;have Z:w'.cell? ⟨Ka,1,none⟩=some (I L d):=bc_ Ja.out 1;have aa:w'.cell? ⟨Ka,2,none⟩=some (I L q):=bc_ Ja.out 2;have ab:w'.cell? ⟨Ka,3,none⟩=some (I L s):=bc_ Ja.out 3;have ac:w'.cell? ⟨Ka,4,none⟩=some (I L u):=bc_ Ja.out 4;have ad:w'.cell? ⟨Ka,5,none⟩=some (I L x):=bc_ Ja.out 5;have ae:w'.cell? ⟨Ka,6,none⟩=some (I L y):=bc_ Ja.out 6;have af:w'.cell? ⟨Ka,7,none⟩=some (I L z):=bc_ Ja.out 7;have ag:w'.cell? ⟨Ka,8,none⟩=some (I L A):=bc_ Ja.out 8;have ah:w'.cell? ⟨Ka,9,none⟩=some (I L B):=bc_ Ja.out 9;have ai:w'.cell? ⟨Ka,10,none⟩=some (I L E):=bc_ Ja.out 10;have aj:w'.cell? ⟨Ka,11,none⟩=some (I L l):=bc_ Ja.out 11;have ak:w'.cell? ⟨Ka,12,none⟩=some (I L o):=bc_ Ja.out 12;have al:w'.cell? ⟨Ka,13,none⟩=some (I L p):=bc_ Ja.out 13;refine qav_ (w1:=w') (v:=I L m) (by rfl) rfl ?_ ?_
   ·go_simp
    (try simp only [i64_w])
    try rfl
   refine hK.out _ _ ⟨Ma,Xa,Jb,Oa,Kb,Mb,Ob,Ua,c,Z24,Q_BK799,Q_HB,fun h0_ _=>absurd ((hoff 8 (by kernel_rfl)).symm.trans h0_) (by decide),Q_HO805,Q_HO808,Q_HO811,Q_HO814,Q_HO817,fun h0_=>absurd ((hoff 30 (by kernel_rfl)).symm.trans h0_) (by decide),fun h0_=>absurd ((hoff 31 (by kernel_rfl)).symm.trans h0_) (by decide),fun h0_=>absurd ((hoff 32 (by kernel_rfl)).symm.trans h0_) (by decide)⟩
  refine qp_ ?_ ?_
  ·rintro b a w' ⟨Ma,Xa,Jb,Oa,Kb,Mb,Ob,Ua,c,ha,Q_BK799,Q_HB,Q_HO802,Q_HO805,Q_HO808,Q_HO811,Q_HO814,Q_HO817,Q_HO820,Q_HO823,Q_X32_⟩ hb_ hon hoff
   refine ⟨_,rfl,fun K hK=>?_⟩
   have e10:a.tmps[10]?=some (I L m):=by rw [ha];exact qq_ (e:=(1,10,I L m)) 0 rfl rfl (hon 1 (by kernel_rfl)) rfl
   replace ha:=D ha;have Ja:=D Q_BK799;have HB:=D Q_HB;refine qav_ (w1:=w') (v:=.int .u8 ((m) % 256)) (by rfl) rfl ?_ ?_
   ·go_simp
    (try simp only [i64_w])
    try rfl
   refine hK.out _ _ ⟨Ma,Xa,Jb,Oa,Kb,Mb,Ob,Ua,c,Z25,Q_BK799,Q_HB,fun h0_ _=>absurd ((hoff 8 (by kernel_rfl)).symm.trans h0_) (by decide),Q_HO805,Q_HO808,Q_HO811,Q_HO814,Q_HO817,fun h0_=>absurd ((hoff 30 (by kernel_rfl)).symm.trans h0_) (by decide),fun h0_=>absurd ((hoff 31 (by kernel_rfl)).symm.trans h0_) (by decide),fun h0_=>absurd ((hoff 32 (by kernel_rfl)).symm.trans h0_) (by decide)⟩
  refine qp_ ?_ ?_
  ·rintro b a w' ⟨Ma,Xa,Jb,Oa,Kb,Mb,Ob,Ua,c,ha,Q_BK799,Q_HB,Q_HO802,Q_HO805,Q_HO808,Q_HO811,Q_HO814,Q_HO817,Q_HO820,Q_HO823,Q_X32_⟩ hb_ hon hoff
   refine ⟨_,rfl,fun K hK=>?_⟩
   have bx:a.tmps[14]?=some (.pointer (some ⟨Ka,1,none⟩)):=by rw [ha];exact (qx_ rfl).trans rfl
   replace ha:=D ha;have Ja:=D Q_BK799;have HB:=D Q_HB;have X:w'.cell? ⟨Ka,0,none⟩=some (I L m):=bc_ Ja.out 0;have Z:w'.cell? ⟨Ka,1,none⟩=some (I L d):=bc_ Ja.out 1;have aa:w'.cell? ⟨Ka,2,none⟩=some (I L q):=bc_ Ja.out 2;have ab:w'.cell? ⟨Ka,3,none⟩=some (I L s):=bc_ Ja.out 3;have ac:w'.cell? ⟨Ka,4,none⟩=some (I L u):=bc_ Ja.out 4;have ad:w'.cell? ⟨Ka,5,none⟩=some (I L x):=bc_ Ja.out 5;have ae:w'.cell? ⟨Ka,6,none⟩=some (I L y):=bc_ Ja.out 6;have af:w'.cell? ⟨Ka,7,none⟩=some (I L z):=bc_ Ja.out 7;have ag:w'.cell? ⟨Ka,8,none⟩=some (I L A):=bc_ Ja.out 8;have ah:w'.cell? ⟨Ka,9,none⟩=some (I L B):=bc_ Ja.out 9;have ai:w'.cell? ⟨Ka,10,none⟩=some (I L E):=bc_ Ja.out 10;have aj:w'.cell? ⟨Ka,11,none⟩=some (I L l):=bc_ Ja.out 11;have ak:w'.cell? ⟨Ka,12,none⟩=some (I L o):=bc_ Ja.out 12;have al:w'.cell? ⟨Ka,13,none⟩=some (I L p):=bc_ Ja.out 13;refine qav_ (w1:=w') (v:=I L d) (by rfl) rfl ?_ ?_
   ·go_simp
    (try simp only [i64_w])
    try rfl
   refine hK.out _ _ ⟨Ma,Xa,Jb,Oa,Kb,Mb,Ob,Ua,c,Z26,Q_BK799,Q_HB,fun h0_ _=>absurd ((hoff 8 (by kernel_rfl)).symm.trans h0_) (by decide),Q_HO805,Q_HO808,Q_HO811,Q_HO814,Q_HO817,fun h0_=>absurd ((hoff 30 (by kernel_rfl)).symm.trans h0_) (by decide),fun h0_=>absurd ((hoff 31 (by kernel_rfl)).symm.trans h0_) (by decide),fun h0_=>absurd ((hoff 32 (by kernel_rfl)).symm.trans h0_) (by decide)⟩
  refine qp_ ?_ ?_
  ·rintro b a w' ⟨Ma,Xa,Jb,Oa,Kb,Mb,Ob,Ua,c,ha,Q_BK799,Q_HB,Q_HO802,Q_HO805,Q_HO808,Q_HO811,Q_HO814,Q_HO817,Q_HO820,Q_HO823,Q_X32_⟩ hb_ hon hoff
   refine ⟨_,rfl,fun K hK=>?_⟩
   have bA:a.tmps[15]?=some (I L d):=by rw [ha];exact qq_ (e:=(6,15,I L d)) 2 rfl rfl (hon 6 (by kernel_rfl)) rfl
   replace ha:=D ha;have Ja:=D Q_BK799;have HB:=D Q_HB;refine qav_ (w1:=w') (v:=.int .u8 ((d) % 256)) (by rfl) rfl ?_ ?_
   ·go_simp
    (try simp only [i64_w])
    try rfl
   refine hK.out _ _ ⟨Ma,Xa,Jb,Oa,Kb,Mb,Ob,Ua,c,Z27,Q_BK799,Q_HB,fun h0_ _=>absurd ((hoff 8 (by kernel_rfl)).symm.trans h0_) (by decide),Q_HO805,Q_HO808,Q_HO811,Q_HO814,Q_HO817,fun h0_=>absurd ((hoff 30 (by kernel_rfl)).symm.trans h0_) (by decide),fun h0_=>absurd ((hoff 31 (by kernel_rfl)).symm.trans h0_) (by decide),fun h0_=>absurd ((hoff 32 (by kernel_rfl)).symm.trans h0_) (by decide)⟩
  refine qp_ ?_ ?_
  ·rintro b a w' ⟨Ma,Xa,Jb,Oa,Kb,Mb,Ob,Ua,c,ha,Q_BK799,Q_HB,Q_HO802,Q_HO805,Q_HO808,Q_HO811,Q_HO814,Q_HO817,Q_HO820,Q_HO823,Q_X32_⟩ hb_ hon hoff
   refine ⟨_,rfl,fun K hK=>?_⟩
   have e11:a.tmps[11]?=some (.int .u8 ((m) % 256)):=by rw [ha];exact qq_ (e:=(2,11,.int .u8 ((m) % 256))) 1 rfl rfl (hon 2 (by kernel_rfl)) rfl
   have bB:a.tmps[16]?=some (.int .u8 ((d) % 256)):=by rw [ha];exact qq_ (e:=(7,16,.int .u8 ((d) % 256))) 3 rfl rfl (hon 7 (by kernel_rfl)) rfl
   replace ha:=D ha;have Ja:=D Q_BK799;have HB:=D Q_HB;refine Kd.R_lit_step (Kd.int .u8) _ 5 ?hg (N:=17) ?hd (xs:=([(m) % 256,(d) % 256]:List Int)) (inner:=[.int .u8 ((m) % 256),.int .u8 ((d) % 256)]) (ok:=fun _=>True) (okp:=fun _=>True) ?hr ?hp (fun _ hk=>hk) trivial (Below.refl _ _) (Nat.le_refl _) (by simp) ?_;(case hd=>rfl);(case hg=>rfl);(case hr=>first|(go_simp;done)|(go_simp;rfl));(case hp=>exact (Reps.one (show Kd.M (Kd.int .u8) _ _ _ ((m) % 256) [.int .u8 ((m) % 256)] from rfl) (Reps.one (show Kd.M (Kd.int .u8) _ _ _ ((d) % 256) [.int .u8 ((d) % 256)] from rfl) (Reps.none _ _))));intro Ma T j hb hg_ hnew_;clear hg_ hnew_;(first|rw [← aD.out] at j|(simp only [Int.reduceToNat] at j;rw [← aD.out] at j));have G:=D (Kd.R_lower j (qh_ (pB_ HB.out)));have J:=D (qb_ (pk_ Ja.out) hb);have O:=D (qc_ (pB_ HB.out) hb)
   have z_HO805:=fun (h0_:b 12=true) (h1_:b 30=false)=>(show Kd.R (Kd.int .u8) 5 T w.heap.size (fun _=>True) Xa Oc from by first|exact (Kd.R_elder' (pR_ (Q_HO805 h0_ h1_)) (Kd.R_base j) hb)|exact Kd.R_mono (Kd.R_elder' (pR_ (Q_HO805 h0_ h1_)) (Kd.R_base j) hb) (fun _ h_=>by first|trivial|exact h_|exact h_.1))
   have z_HO808:=fun (h0_:b 16=true) (h1_:b 30=false)=>(show Kd.R (Kd.int .u8) 5 T w.heap.size (fun _=>True) Jb Uc from by first|exact (Kd.R_elder' (pR_ (Q_HO808 h0_ h1_)) (Kd.R_base j) hb)|exact Kd.R_mono (Kd.R_elder' (pR_ (Q_HO808 h0_ h1_)) (Kd.R_base j) hb) (fun _ h_=>by first|trivial|exact h_|exact h_.1))
   have z_HO811:=fun (h0_:b 21=true) (h1_:b 30=false)=>(show Kd.R (Kd.int .u8) 5 T w.heap.size (fun _=>True) Oa U from by first|exact (Kd.R_elder' (pR_ (Q_HO811 h0_ h1_)) (Kd.R_base j) hb)|exact Kd.R_mono (Kd.R_elder' (pR_ (Q_HO811 h0_ h1_)) (Kd.R_base j) hb) (fun _ h_=>by first|trivial|exact h_|exact h_.1))
   have z_HO814:=fun (h0_:b 25=true) (h1_:b 30=false)=>(show Kd.R (Kd.int .u8) 5 T w.heap.size (fun _=>True) Kb Kc from by first|exact (Kd.R_elder' (pR_ (Q_HO814 h0_ h1_)) (Kd.R_base j) hb)|exact Kd.R_mono (Kd.R_elder' (pR_ (Q_HO814 h0_ h1_)) (Kd.R_base j) hb) (fun _ h_=>by first|trivial|exact h_|exact h_.1))
   have z_HO817:=fun (h0_:b 29=true) (h1_:b 30=false)=>(show Kd.R (Kd.int .u8) 5 T w.heap.size (fun _=>True) Mb Mc from by first|exact (Kd.R_elder' (pR_ (Q_HO817 h0_ h1_)) (Kd.R_base j) hb)|exact Kd.R_mono (Kd.R_elder' (pR_ (Q_HO817 h0_ h1_)) (Kd.R_base j) hb) (fun _ h_=>by first|trivial|exact h_|exact h_.1))
   clear Ja;clear HB;have Od:=G;have Ja:=J;have HB:=O;clear G J O;clear hb j;refine hK.out _ _ ⟨Ma,Xa,Jb,Oa,Kb,Mb,Ob,Ua,c,Z28,(pk_ Ja.out),(pB_ HB.out),fun _ _=>(pR_ Od.out),z_HO805,z_HO808,z_HO811,z_HO814,z_HO817,fun h0_=>absurd ((hoff 30 (by kernel_rfl)).symm.trans h0_) (by decide),fun h0_=>absurd ((hoff 31 (by kernel_rfl)).symm.trans h0_) (by decide),fun h0_=>absurd ((hoff 32 (by kernel_rfl)).symm.trans h0_) (by decide)⟩
  refine qp_ ?_ ?_
  ·rintro b a w' ⟨Ma,Xa,Jb,Oa,Kb,Mb,Ob,Ua,c,ha,Q_BK799,Q_HB,Q_HO802,Q_HO805,Q_HO808,Q_HO811,Q_HO814,Q_HO817,Q_HO820,Q_HO823,Q_X32_⟩ hb_ hon hoff
   refine ⟨_,rfl,fun K hK=>?_⟩
   have bC:a.tmps[19]?=some (.pointer (some ⟨Ka,1,none⟩)):=by rw [ha];exact (qx_ rfl).trans rfl
   replace ha:=D ha;have Ja:=D Q_BK799;have HB:=D Q_HB;have X:w'.cell? ⟨Ka,0,none⟩=some (I L m):=bc_ Ja.out 0;have Z:w'.cell? ⟨Ka,1,none⟩=some (I L d):=bc_ Ja.out 1;have aa:w'.cell? ⟨Ka,2,none⟩=some (I L q):=bc_ Ja.out 2;have ab:w'.cell? ⟨Ka,3,none⟩=some (I L s):=bc_ Ja.out 3;have ac:w'.cell? ⟨Ka,4,none⟩=some (I L u):=bc_ Ja.out 4;have ad:w'.cell? ⟨Ka,5,none⟩=some (I L x):=bc_ Ja.out 5;have ae:w'.cell? ⟨Ka,6,none⟩=some (I L y):=bc_ Ja.out 6;have af:w'.cell? ⟨Ka,7,none⟩=some (I L z):=bc_ Ja.out 7;have ag:w'.cell? ⟨Ka,8,none⟩=some (I L A):=bc_ Ja.out 8;have ah:w'.cell? ⟨Ka,9,none⟩=some (I L B):=bc_ Ja.out 9;have ai:w'.cell? ⟨Ka,10,none⟩=some (I L E):=bc_ Ja.out 10;have aj:w'.cell? ⟨Ka,11,none⟩=some (I L l):=bc_ Ja.out 11;have ak:w'.cell? ⟨Ka,12,none⟩=some (I L o):=bc_ Ja.out 12;have al:w'.cell? ⟨Ka,13,none⟩=some (I L p):=bc_ Ja.out 13;refine qav_ (w1:=w') (v:=.agg #[I L d,I L q,I L s,I L u,I L x]) (by rfl) rfl ?_ ?_
   ·go_simp
    (try simp only [i64_w])
    try rfl
   refine hK.out _ _ ⟨Ma,Xa,Jb,Oa,Kb,Mb,Ob,Ua,c,Z29,Q_BK799,Q_HB,Q_HO802,fun h0_ _=>absurd ((hoff 12 (by kernel_rfl)).symm.trans h0_) (by decide),fun h0_ _=>absurd ((hoff 16 (by kernel_rfl)).symm.trans h0_) (by decide),Q_HO811,fun h0_ _=>absurd ((hoff 25 (by kernel_rfl)).symm.trans h0_) (by decide),fun h0_ _=>absurd ((hoff 29 (by kernel_rfl)).symm.trans h0_) (by decide),fun h0_=>absurd ((hoff 30 (by kernel_rfl)).symm.trans h0_) (by decide),fun h0_=>absurd ((hoff 31 (by kernel_rfl)).symm.trans h0_) (by decide),fun h0_=>absurd ((hoff 32 (by kernel_rfl)).symm.trans h0_) (by decide)⟩
  refine qp_ ?_ ?_
  ·rintro b a w' ⟨Ma,Xa,Jb,Oa,Kb,Mb,Ob,Ua,c,ha,Q_BK799,Q_HB,Q_HO802,Q_HO805,Q_HO808,Q_HO811,Q_HO814,Q_HO817,Q_HO820,Q_HO823,Q_X32_⟩ hb_ hon hoff
   refine ⟨_,rfl,fun K hK=>?_⟩
   have e20:a.tmps[20]?=some (.agg #[I L d,I L q,I L s,I L u,I L x]):=by rw [ha];exact qq_ (e:=(11,20,.agg #[I L d,I L q,I L s,I L u,I L x])) 5 rfl rfl (hon 11 (by kernel_rfl)) rfl
   replace ha:=D ha;have Ja:=D Q_BK799;have HB:=D Q_HB;refine goes_ Try.func52 (by kernel_rfl) rfl #[.agg #[I L d,I L q,I L s,I L u,I L x]] (by rfl) rfl rfl Z1 ?_;with_reducible refine (impl_AddrBytes.calls k d q s u x Oc _ A3.out).mono ?_
   rintro e T ⟨Xa,rfl,g,hb⟩;refine ⟨_,rfl,?_⟩;have G:=D (Kd.R_lower g (qh_ (pB_ HB.out)));have J:=D (qb_ (pk_ Ja.out) hb);have O:=D (qc_ (pB_ HB.out) hb)
   have z_HO802:=fun (h0_:b 8=true) (h1_:b 30=false)=>(show Kd.R (Kd.int .u8) 5 T w.heap.size (fun _=>True) Ma P from by first|exact (Kd.R_elder' (pR_ (Q_HO802 h0_ h1_)) (Kd.R_base g) hb)|exact Kd.R_mono (Kd.R_elder' (pR_ (Q_HO802 h0_ h1_)) (Kd.R_base g) hb) (fun _ h_=>by first|trivial|exact h_|exact h_.1))
   have z_HO811:=fun (h0_:b 21=true) (h1_:b 30=false)=>(show Kd.R (Kd.int .u8) 5 T w.heap.size (fun _=>True) Oa U from by first|exact (Kd.R_elder' (pR_ (Q_HO811 h0_ h1_)) (Kd.R_base g) hb)|exact Kd.R_mono (Kd.R_elder' (pR_ (Q_HO811 h0_ h1_)) (Kd.R_base g) hb) (fun _ h_=>by first|trivial|exact h_|exact h_.1))
   clear Ja;clear HB;have Xb:=G;have Ja:=J;have HB:=O;clear G J O;refine hK.out _ _ ⟨Ma,Xa,Jb,Oa,Kb,Mb,Ob,Ua,c,Z30,(pk_ Ja.out),(pB_ HB.out),z_HO802,fun _ _=>(pR_ Xb.out),fun h0_ _=>absurd ((hoff 16 (by kernel_rfl)).symm.trans h0_) (by decide),z_HO811,fun h0_ _=>absurd ((hoff 25 (by kernel_rfl)).symm.trans h0_) (by decide),fun h0_ _=>absurd ((hoff 29 (by kernel_rfl)).symm.trans h0_) (by decide),fun h0_=>absurd ((hoff 30 (by kernel_rfl)).symm.trans h0_) (by decide),fun h0_=>absurd ((hoff 31 (by kernel_rfl)).symm.trans h0_) (by decide),fun h0_=>absurd ((hoff 32 (by kernel_rfl)).symm.trans h0_) (by decide)⟩
  refine qp_ ?_ ?_
  ·rintro b a w' ⟨Ma,Xa,Jb,Oa,Kb,Mb,Ob,Ua,c,ha,Q_BK799,Q_HB,Q_HO802,Q_HO805,Q_HO808,Q_HO811,Q_HO814,Q_HO817,Q_HO820,Q_HO823,Q_X32_⟩ hb_ hon hoff
   refine ⟨_,rfl,fun K hK=>?_⟩
   have bD:a.tmps[23]?=some (.pointer (some ⟨Ka,6,none⟩)):=by rw [ha];exact (qx_ rfl).trans rfl
   replace ha:=D ha;have Ja:=D Q_BK799;have HB:=D Q_HB;have X:w'.cell? ⟨Ka,0,none⟩=some (I L m):=bc_ Ja.out 0;have Z:w'.cell? ⟨Ka,1,none⟩=some (I L d):=bc_ Ja.out 1;have aa:w'.cell? ⟨Ka,2,none⟩=some (I L q):=bc_ Ja.out 2;have ab:w'.cell? ⟨Ka,3,none⟩=some (I L s):=bc_ Ja.out 3;have ac:w'.cell? ⟨Ka,4,none⟩=some (I L u):=bc_ Ja.out 4;have ad:w'.cell? ⟨Ka,5,none⟩=some (I L x):=bc_ Ja.out 5;have ae:w'.cell? ⟨Ka,6,none⟩=some (I L y):=bc_ Ja.out 6;have af:w'.cell? ⟨Ka,7,none⟩=some (I L z):=bc_ Ja.out 7;have ag:w'.cell? ⟨Ka,8,none⟩=some (I L A):=bc_ Ja.out 8;have ah:w'.cell? ⟨Ka,9,none⟩=some (I L B):=bc_ Ja.out 9;have ai:w'.cell? ⟨Ka,10,none⟩=some (I L E):=bc_ Ja.out 10;have aj:w'.cell? ⟨Ka,11,none⟩=some (I L l):=bc_ Ja.out 11;have ak:w'.cell? ⟨Ka,12,none⟩=some (I L o):=bc_ Ja.out 12;have al:w'.cell? ⟨Ka,13,none⟩=some (I L p):=bc_ Ja.out 13;refine qav_ (w1:=w') (v:=.agg #[I L y,I L z,I L A,I L B,I L E]) (by rfl) rfl ?_ ?_
   ·go_simp
    (try simp only [i64_w])
    try rfl
   refine hK.out _ _ ⟨Ma,Xa,Jb,Oa,Kb,Mb,Ob,Ua,c,Z31,Q_BK799,Q_HB,Q_HO802,Q_HO805,fun h0_ _=>absurd ((hoff 16 (by kernel_rfl)).symm.trans h0_) (by decide),Q_HO811,fun h0_ _=>absurd ((hoff 25 (by kernel_rfl)).symm.trans h0_) (by decide),fun h0_ _=>absurd ((hoff 29 (by kernel_rfl)).symm.trans h0_) (by decide),fun h0_=>absurd ((hoff 30 (by kernel_rfl)).symm.trans h0_) (by decide),fun h0_=>absurd ((hoff 31 (by kernel_rfl)).symm.trans h0_) (by decide),fun h0_=>absurd ((hoff 32 (by kernel_rfl)).symm.trans h0_) (by decide)⟩
  refine qp_ ?_ ?_
  ·rintro b a w' ⟨Ma,Xa,Jb,Oa,Kb,Mb,Ob,Ua,c,ha,Q_BK799,Q_HB,Q_HO802,Q_HO805,Q_HO808,Q_HO811,Q_HO814,Q_HO817,Q_HO820,Q_HO823,Q_X32_⟩ hb_ hon hoff
   refine ⟨_,rfl,fun K hK=>?_⟩
   have aL:a.tmps[24]?=some (.agg #[I L y,I L z,I L A,I L B,I L E]):=by rw [ha];exact qq_ (e:=(15,24,.agg #[I L y,I L z,I L A,I L B,I L E])) 7 rfl rfl (hon 15 (by kernel_rfl)) rfl
   replace ha:=D ha;have Ja:=D Q_BK799;have HB:=D Q_HB;have Xb:=D (Q_HO805 (hon 12 (by kernel_rfl)) (hoff 30 (by kernel_rfl)));refine goes_ Try.func52 (by kernel_rfl) rfl #[.agg #[I L y,I L z,I L A,I L B,I L E]] (by rfl) rfl rfl (by first|(simp only [List.map_toArray,List.map_cons,List.map_nil,Act.eval,Array.getD_eq_getD_getElem?,Option.getD_some,aL];done)|(simp only [List.map_toArray,List.map_cons,List.map_nil,Act.eval,Array.getD_eq_getD_getElem?,Option.getD_some,aL];rfl)) ?_;with_reducible refine (impl_AddrBytes.calls k y z A B E Uc _ A4.out).mono ?_
   rintro e aM ⟨Jb,rfl,g,hb⟩;refine ⟨_,rfl,?_⟩;have G:=D (Kd.R_elder' (pR_ Xb.out) (Kd.R_base g) hb);have J:=D (Kd.R_lower (nw_ g (pR_ Xb.out)) (qh_ (pB_ HB.out)));have O:=D (qb_ (pk_ Ja.out) hb);have W:=D (qc_ (pB_ HB.out) hb)
   have z_HO802:=fun (h0_:b 8=true) (h1_:b 30=false)=>(show Kd.R (Kd.int .u8) 5 aM w.heap.size (fun _=>True) Ma P from by first|exact (Kd.R_elder' (pR_ (Q_HO802 h0_ h1_)) (Kd.R_base g) hb)|exact Kd.R_mono (Kd.R_elder' (pR_ (Q_HO802 h0_ h1_)) (Kd.R_base g) hb) (fun _ h_=>by first|trivial|exact h_|exact h_.1))
   have z_HO811:=fun (h0_:b 21=true) (h1_:b 30=false)=>(show Kd.R (Kd.int .u8) 5 aM w.heap.size (fun _=>True) Oa U from by first|exact (Kd.R_elder' (pR_ (Q_HO811 h0_ h1_)) (Kd.R_base g) hb)|exact Kd.R_mono (Kd.R_elder' (pR_ (Q_HO811 h0_ h1_)) (Kd.R_base g) hb) (fun _ h_=>by first|trivial|exact h_|exact h_.1))
   clear Xb;clear Ja;clear HB;have Xb:=G;have Jc:=J;have Ja:=O;have HB:=W;clear G J O W;refine hK.out _ _ ⟨Ma,Xa,Jb,Oa,Kb,Mb,Ob,Ua,c,Z32,(pk_ Ja.out),(pB_ HB.out),z_HO802,fun _ _=>(pR_ (Kd.R_mono Xb.out (fun _ hk=>by first|exact hk.2|trivial))),fun _ _=>(pR_ (Kd.R_mono Jc.out (fun _ hk=>by first|exact hk.2|trivial))),z_HO811,fun h0_ _=>absurd ((hoff 25 (by kernel_rfl)).symm.trans h0_) (by decide),fun h0_ _=>absurd ((hoff 29 (by kernel_rfl)).symm.trans h0_) (by decide),fun h0_=>absurd ((hoff 30 (by kernel_rfl)).symm.trans h0_) (by decide),fun h0_=>absurd ((hoff 31 (by kernel_rfl)).symm.trans h0_) (by decide),fun h0_=>absurd ((hoff 32 (by kernel_rfl)).symm.trans h0_) (by decide)⟩
  refine qp_ ?_ ?_
  ·rintro b a w' ⟨Ma,Xa,Jb,Oa,Kb,Mb,Ob,Ua,c,ha,Q_BK799,Q_HB,Q_HO802,Q_HO805,Q_HO808,Q_HO811,Q_HO814,Q_HO817,Q_HO820,Q_HO823,Q_X32_⟩ hb_ hon hoff
   refine ⟨_,rfl,fun K hK=>?_⟩
   have bE:a.tmps[27]?=some (.pointer (some ⟨Ka,11,none⟩)):=by rw [ha];exact (qx_ rfl).trans rfl
   replace ha:=D ha;have Ja:=D Q_BK799;have HB:=D Q_HB;have X:w'.cell? ⟨Ka,0,none⟩=some (I L m):=bc_ Ja.out 0;have Z:w'.cell? ⟨Ka,1,none⟩=some (I L d):=bc_ Ja.out 1;have aa:w'.cell? ⟨Ka,2,none⟩=some (I L q):=bc_ Ja.out 2;have ab:w'.cell? ⟨Ka,3,none⟩=some (I L s):=bc_ Ja.out 3;have ac:w'.cell? ⟨Ka,4,none⟩=some (I L u):=bc_ Ja.out 4;have ad:w'.cell? ⟨Ka,5,none⟩=some (I L x):=bc_ Ja.out 5;have ae:w'.cell? ⟨Ka,6,none⟩=some (I L y):=bc_ Ja.out 6;have af:w'.cell? ⟨Ka,7,none⟩=some (I L z):=bc_ Ja.out 7;have ag:w'.cell? ⟨Ka,8,none⟩=some (I L A):=bc_ Ja.out 8;have ah:w'.cell? ⟨Ka,9,none⟩=some (I L B):=bc_ Ja.out 9;have ai:w'.cell? ⟨Ka,10,none⟩=some (I L E):=bc_ Ja.out 10;have aj:w'.cell? ⟨Ka,11,none⟩=some (I L l):=bc_ Ja.out 11;have ak:w'.cell? ⟨Ka,12,none⟩=some (I L o):=bc_ Ja.out 12;have al:w'.cell? ⟨Ka,13,none⟩=some (I L p):=bc_ Ja.out 13;refine qav_ (w1:=w') (v:=I L l) (by rfl) rfl ?_ ?_
   ·go_simp
    (try simp only [i64_w])
    try rfl
   refine hK.out _ _ ⟨Ma,Xa,Jb,Oa,Kb,Mb,Ob,Ua,c,Z33,Q_BK799,Q_HB,Q_HO802,Q_HO805,Q_HO808,fun h0_ _=>absurd ((hoff 21 (by kernel_rfl)).symm.trans h0_) (by decide),Q_HO814,Q_HO817,fun h0_=>absurd ((hoff 30 (by kernel_rfl)).symm.trans h0_) (by decide),fun h0_=>absurd ((hoff 31 (by kernel_rfl)).symm.trans h0_) (by decide),fun h0_=>absurd ((hoff 32 (by kernel_rfl)).symm.trans h0_) (by decide)⟩
  refine qp_ ?_ ?_
  ·rintro b a w' ⟨Ma,Xa,Jb,Oa,Kb,Mb,Ob,Ua,c,ha,Q_BK799,Q_HB,Q_HO802,Q_HO805,Q_HO808,Q_HO811,Q_HO814,Q_HO817,Q_HO820,Q_HO823,Q_X32_⟩ hb_ hon hoff
   refine ⟨_,rfl,fun K hK=>?_⟩
   have bF:a.tmps[28]?=some (I L l):=by rw [ha];exact qq_ (e:=(19,28,I L l)) 9 rfl rfl (hon 19 (by kernel_rfl)) rfl
   replace ha:=D ha;have Ja:=D Q_BK799;have HB:=D Q_HB;refine qav_ (w1:=w') (v:=.int .u8 ((l) % 256)) (by rfl) rfl ?_ ?_
   ·go_simp
    (try simp only [i64_w])
    try rfl
   refine hK.out _ _ ⟨Ma,Xa,Jb,Oa,Kb,Mb,Ob,Ua,c,(by rw [ha.out];exact qw_ 10 hb_ rfl rfl rfl),Q_BK799,Q_HB,Q_HO802,Q_HO805,Q_HO808,fun h0_ _=>absurd ((hoff 21 (by kernel_rfl)).symm.trans h0_) (by decide),Q_HO814,Q_HO817,fun h0_=>absurd ((hoff 30 (by kernel_rfl)).symm.trans h0_) (by decide),fun h0_=>absurd ((hoff 31 (by kernel_rfl)).symm.trans h0_) (by decide),fun h0_=>absurd ((hoff 32 (by kernel_rfl)).symm.trans h0_) (by decide)⟩
  refine qp_ ?_ ?_
  ·rintro b a w' ⟨Ma,Xa,Jb,Oa,Kb,Mb,Ob,Ua,c,ha,Q_BK799,Q_HB,Q_HO802,Q_HO805,Q_HO808,Q_HO811,Q_HO814,Q_HO817,Q_HO820,Q_HO823,Q_X32_⟩ hb_ hon hoff
   refine ⟨_,rfl,fun K hK=>?_⟩
   have bG:a.tmps[29]?=some (.int .u8 ((l) % 256)):=by rw [ha];exact qq_ (e:=(20,29,.int .u8 ((l) % 256))) 10 rfl rfl (hon 20 (by kernel_rfl)) rfl
   replace ha:=D ha;have Ja:=D Q_BK799;have HB:=D Q_HB;refine Kd.R_lit_step (Kd.int .u8) _ 5 ?hg (N:=30) ?hd (xs:=([(l) % 256]:List Int)) (inner:=[.int .u8 ((l) % 256)]) (ok:=fun _=>True) (okp:=fun _=>True) ?hr ?hp (fun _ hk=>hk) trivial (Below.refl _ _) (Nat.le_refl _) (by simp) ?_;(case hd=>rfl);(case hg=>rfl);(case hr=>first|(go_simp;done)|(go_simp;rfl));(case hp=>exact (Reps.one (show Kd.M (Kd.int .u8) _ _ _ ((l) % 256) [.int .u8 ((l) % 256)] from rfl) (Reps.none _ _)));intro Oa T j hb hg_ hnew_;clear hg_ hnew_;(first|rw [← aG.out] at j|(simp only [Int.reduceToNat] at j;rw [← aG.out] at j));have G:=D (Kd.R_lower j (qh_ (pB_ HB.out)));have J:=D (qb_ (pk_ Ja.out) hb);have O:=D (qc_ (pB_ HB.out) hb)
   have z_HO802:=fun (h0_:b 8=true) (h1_:b 30=false)=>(show Kd.R (Kd.int .u8) 5 T w.heap.size (fun _=>True) Ma P from by first|exact (Kd.R_elder' (pR_ (Q_HO802 h0_ h1_)) (Kd.R_base j) hb)|exact Kd.R_mono (Kd.R_elder' (pR_ (Q_HO802 h0_ h1_)) (Kd.R_base j) hb) (fun _ h_=>by first|trivial|exact h_|exact h_.1))
   have z_HO805:=fun (h0_:b 12=true) (h1_:b 30=false)=>(show Kd.R (Kd.int .u8) 5 T w.heap.size (fun _=>True) Xa Oc from by first|exact (Kd.R_elder' (pR_ (Q_HO805 h0_ h1_)) (Kd.R_base j) hb)|exact Kd.R_mono (Kd.R_elder' (pR_ (Q_HO805 h0_ h1_)) (Kd.R_base j) hb) (fun _ h_=>by first|trivial|exact h_|exact h_.1))
   have z_HO808:=fun (h0_:b 16=true) (h1_:b 30=false)=>(show Kd.R (Kd.int .u8) 5 T w.heap.size (fun _=>True) Jb Uc from by first|exact (Kd.R_elder' (pR_ (Q_HO808 h0_ h1_)) (Kd.R_base j) hb)|exact Kd.R_mono (Kd.R_elder' (pR_ (Q_HO808 h0_ h1_)) (Kd.R_base j) hb) (fun _ h_=>by first|trivial|exact h_|exact h_.1))
   have z_HO814:=fun (h0_:b 25=true) (h1_:b 30=false)=>(show Kd.R (Kd.int .u8) 5 T w.heap.size (fun _=>True) Kb Kc from by first|exact (Kd.R_elder' (pR_ (Q_HO814 h0_ h1_)) (Kd.R_base j) hb)|exact Kd.R_mono (Kd.R_elder' (pR_ (Q_HO814 h0_ h1_)) (Kd.R_base j) hb) (fun _ h_=>by first|trivial|exact h_|exact h_.1))
   have z_HO817:=fun (h0_:b 29=true) (h1_:b 30=false)=>(show Kd.R (Kd.int .u8) 5 T w.heap.size (fun _=>True) Mb Mc from by first|exact (Kd.R_elder' (pR_ (Q_HO817 h0_ h1_)) (Kd.R_base j) hb)|exact Kd.R_mono (Kd.R_elder' (pR_ (Q_HO817 h0_ h1_)) (Kd.R_base j) hb) (fun _ h_=>by first|trivial|exact h_|exact h_.1))
   clear Ja;clear HB;have Ud:=G;have Ja:=J;have HB:=O;clear G J O;clear hb j;refine hK.out _ _ ⟨Ma,Xa,Jb,Oa,Kb,Mb,Ob,Ua,c,(by rw [ha.out];exact qw_ 11 hb_ rfl rfl rfl),(pk_ Ja.out),(pB_ HB.out),z_HO802,z_HO805,z_HO808,fun _ _=>(pR_ Ud.out),z_HO814,z_HO817,fun h0_=>absurd ((hoff 30 (by kernel_rfl)).symm.trans h0_) (by decide),fun h0_=>absurd ((hoff 31 (by kernel_rfl)).symm.trans h0_) (by decide),fun h0_=>absurd ((hoff 32 (by kernel_rfl)).symm.trans h0_) (by decide)⟩
  refine qp_ ?_ ?_
  ·rintro b a w' ⟨Ma,Xa,Jb,Oa,Kb,Mb,Ob,Ua,c,ha,Q_BK799,Q_HB,Q_HO802,Q_HO805,Q_HO808,Q_HO811,Q_HO814,Q_HO817,Q_HO820,Q_HO823,Q_X32_⟩ hb_ hon hoff
   refine ⟨_,rfl,fun K hK=>?_⟩
   have bH:a.tmps[32]?=some (.pointer (some ⟨Ka,12,none⟩)):=by rw [ha];exact (qx_ rfl).trans rfl
   replace ha:=D ha;have Ja:=D Q_BK799;have HB:=D Q_HB;have X:w'.cell? ⟨Ka,0,none⟩=some (I L m):=bc_ Ja.out 0;have Z:w'.cell? ⟨Ka,1,none⟩=some (I L d):=bc_ Ja.out 1;have aa:w'.cell? ⟨Ka,2,none⟩=some (I L q):=bc_ Ja.out 2;have ab:w'.cell? ⟨Ka,3,none⟩=some (I L s):=bc_ Ja.out 3;have ac:w'.cell? ⟨Ka,4,none⟩=some (I L u):=bc_ Ja.out 4;have ad:w'.cell? ⟨Ka,5,none⟩=some (I L x):=bc_ Ja.out 5;have ae:w'.cell? ⟨Ka,6,none⟩=some (I L y):=bc_ Ja.out 6;have af:w'.cell? ⟨Ka,7,none⟩=some (I L z):=bc_ Ja.out 7;have ag:w'.cell? ⟨Ka,8,none⟩=some (I L A):=bc_ Ja.out 8;have ah:w'.cell? ⟨Ka,9,none⟩=some (I L B):=bc_ Ja.out 9;have ai:w'.cell? ⟨Ka,10,none⟩=some (I L E):=bc_ Ja.out 10;have aj:w'.cell? ⟨Ka,11,none⟩=some (I L l):=bc_ Ja.out 11;have ak:w'.cell? ⟨Ka,12,none⟩=some (I L o):=bc_ Ja.out 12;have al:w'.cell? ⟨Ka,13,none⟩=some (I L p):=bc_ Ja.out 13;refine qav_ (w1:=w') (v:=I L o) (by rfl) rfl ?_ ?_
   ·go_simp
    (try simp only [i64_w])
    try rfl
   refine hK.out _ _ ⟨Ma,Xa,Jb,Oa,Kb,Mb,Ob,Ua,c,(by rw [ha.out];exact qw_ 12 hb_ rfl rfl rfl),Q_BK799,Q_HB,Q_HO802,Q_HO805,Q_HO808,Q_HO811,fun h0_ _=>absurd ((hoff 25 (by kernel_rfl)).symm.trans h0_) (by decide),fun h0_ _=>absurd ((hoff 29 (by kernel_rfl)).symm.trans h0_) (by decide),fun h0_=>absurd ((hoff 30 (by kernel_rfl)).symm.trans h0_) (by decide),fun h0_=>absurd ((hoff 31 (by kernel_rfl)).symm.trans h0_) (by decide),fun h0_=>absurd ((hoff 32 (by kernel_rfl)).symm.trans h0_) (by decide)⟩
  refine qp_ ?_ ?_
  ·rintro b a w' ⟨Ma,Xa,Jb,Oa,Kb,Mb,Ob,Ua,c,ha,Q_BK799,Q_HB,Q_HO802,Q_HO805,Q_HO808,Q_HO811,Q_HO814,Q_HO817,Q_HO820,Q_HO823,Q_X32_⟩ hb_ hon hoff
   refine ⟨_,rfl,fun K hK=>?_⟩
   have aN:a.tmps[33]?=some (I L o):=by rw [ha];exact qq_ (e:=(24,33,I L o)) 12 rfl rfl (hon 24 (by kernel_rfl)) rfl
   replace ha:=D ha;have Ja:=D Q_BK799;have HB:=D Q_HB;have Xb:=D (Q_HO805 (hon 12 (by kernel_rfl)) (hoff 30 (by kernel_rfl)));have Jc:=D (Q_HO808 (hon 16 (by kernel_rfl)) (hoff 30 (by kernel_rfl)));refine goes_ Try.func53 (by kernel_rfl) rfl #[I L o] (by rfl) rfl rfl (by first|(simp only [List.map_toArray,List.map_cons,List.map_nil,Act.eval,Array.getD_eq_getD_getElem?,Option.getD_some,aN];done)|(simp only [List.map_toArray,List.map_cons,List.map_nil,Act.eval,Array.getD_eq_getD_getElem?,Option.getD_some,aN];rfl)) ?_;with_reducible refine (impl_Put16.calls k o Kc _ A5.out).mono ?_
   rintro e aO ⟨Kb,rfl,g,hb⟩;refine ⟨_,rfl,?_⟩;have G:=D (Kd.R_elder' (pR_ Xb.out) (Kd.R_base g) hb);have J:=D (Kd.R_elder' (pR_ Jc.out) (Kd.R_base g) hb);have O:=D (Kd.R_lower (nw_ (nw_ g (pR_ Xb.out)) (pR_ Jc.out)) (qh_ (pB_ HB.out)));have W:=D (qb_ (pk_ Ja.out) hb);have ar:=D (qc_ (pB_ HB.out) hb)
   have z_HO802:=fun (h0_:b 8=true) (h1_:b 30=false)=>(show Kd.R (Kd.int .u8) 5 aO w.heap.size (fun _=>True) Ma P from by first|exact (Kd.R_elder' (pR_ (Q_HO802 h0_ h1_)) (Kd.R_base g) hb)|exact Kd.R_mono (Kd.R_elder' (pR_ (Q_HO802 h0_ h1_)) (Kd.R_base g) hb) (fun _ h_=>by first|trivial|exact h_|exact h_.1))
   have z_HO811:=fun (h0_:b 21=true) (h1_:b 30=false)=>(show Kd.R (Kd.int .u8) 5 aO w.heap.size (fun _=>True) Oa U from by first|exact (Kd.R_elder' (pR_ (Q_HO811 h0_ h1_)) (Kd.R_base g) hb)|exact Kd.R_mono (Kd.R_elder' (pR_ (Q_HO811 h0_ h1_)) (Kd.R_base g) hb) (fun _ h_=>by first|trivial|exact h_|exact h_.1))
   clear Xb;clear Jc;clear Ja;clear HB;have Xb:=G;have Jc:=J;have Jd:=O;have Ja:=W;have HB:=ar;clear G J O W ar;refine hK.out _ _ ⟨Ma,Xa,Jb,Oa,Kb,Mb,Ob,Ua,c,(by rw [ha.out];exact qw_ 13 hb_ rfl rfl rfl),(pk_ Ja.out),(pB_ HB.out),z_HO802,fun _ _=>(by first|exact pR_ Xb.out|exact pR_ (Kd.R_mono Xb.out (fun _ _=>trivial))),fun _ _=>(by first|exact pR_ Jc.out|exact pR_ (Kd.R_mono Jc.out (fun _ _=>trivial))),z_HO811,fun _ _=>(pR_ (Kd.R_mono Jd.out (fun _ hk=>by first|exact ⟨hk.1.2,hk.2⟩|trivial))),fun h0_ _=>absurd ((hoff 29 (by kernel_rfl)).symm.trans h0_) (by decide),fun h0_=>absurd ((hoff 30 (by kernel_rfl)).symm.trans h0_) (by decide),fun h0_=>absurd ((hoff 31 (by kernel_rfl)).symm.trans h0_) (by decide),fun h0_=>absurd ((hoff 32 (by kernel_rfl)).symm.trans h0_) (by decide)⟩
  refine qp_ ?_ ?_
  ·rintro b a w' ⟨Ma,Xa,Jb,Oa,Kb,Mb,Ob,Ua,c,ha,Q_BK799,Q_HB,Q_HO802,Q_HO805,Q_HO808,Q_HO811,Q_HO814,Q_HO817,Q_HO820,Q_HO823,Q_X32_⟩ hb_ hon hoff
   refine ⟨_,rfl,fun K hK=>?_⟩
   have bI:a.tmps[36]?=some (.pointer (some ⟨Ka,13,none⟩)):=by rw [ha];exact (qx_ rfl).trans rfl
   replace ha:=D ha;have Ja:=D Q_BK799;have HB:=D Q_HB;have X:w'.cell? ⟨Ka,0,none⟩=some (I L m):=bc_ Ja.out 0;have Z:w'.cell? ⟨Ka,1,none⟩=some (I L d):=bc_ Ja.out 1;have aa:w'.cell? ⟨Ka,2,none⟩=some (I L q):=bc_ Ja.out 2;have ab:w'.cell? ⟨Ka,3,none⟩=some (I L s):=bc_ Ja.out 3;have ac:w'.cell? ⟨Ka,4,none⟩=some (I L u):=bc_ Ja.out 4;have ad:w'.cell? ⟨Ka,5,none⟩=some (I L x):=bc_ Ja.out 5;have ae:w'.cell? ⟨Ka,6,none⟩=some (I L y):=bc_ Ja.out 6;have af:w'.cell? ⟨Ka,7,none⟩=some (I L z):=bc_ Ja.out 7;have ag:w'.cell? ⟨Ka,8,none⟩=some (I L A):=bc_ Ja.out 8;have ah:w'.cell? ⟨Ka,9,none⟩=some (I L B):=bc_ Ja.out 9;have ai:w'.cell? ⟨Ka,10,none⟩=some (I L E):=bc_ Ja.out 10;have aj:w'.cell? ⟨Ka,11,none⟩=some (I L l):=bc_ Ja.out 11;have ak:w'.cell? ⟨Ka,12,none⟩=some (I L o):=bc_ Ja.out 12;have al:w'.cell? ⟨Ka,13,none⟩=some (I L p):=bc_ Ja.out 13;refine qav_ (w1:=w') (v:=I L p) (by rfl) rfl ?_ ?_
   ·go_simp
    (try simp only [i64_w])
    try rfl
   refine hK.out _ _ ⟨Ma,Xa,Jb,Oa,Kb,Mb,Ob,Ua,c,(by rw [ha.out];exact qw_ 14 hb_ rfl rfl rfl),Q_BK799,Q_HB,Q_HO802,Q_HO805,Q_HO808,Q_HO811,Q_HO814,fun h0_ _=>absurd ((hoff 29 (by kernel_rfl)).symm.trans h0_) (by decide),fun h0_=>absurd ((hoff 30 (by kernel_rfl)).symm.trans h0_) (by decide),fun h0_=>absurd ((hoff 31 (by kernel_rfl)).symm.trans h0_) (by decide),fun h0_=>absurd ((hoff 32 (by kernel_rfl)).symm.trans h0_) (by decide)⟩
  refine qp_ ?_ ?_
  ·rintro b a w' ⟨Ma,Xa,Jb,Oa,Kb,Mb,Ob,Ua,c,ha,Q_BK799,Q_HB,Q_HO802,Q_HO805,Q_HO808,Q_HO811,Q_HO814,Q_HO817,Q_HO820,Q_HO823,Q_X32_⟩ hb_ hon hoff
   refine ⟨_,rfl,fun K hK=>?_⟩
   have aP:a.tmps[37]?=some (I L p):=by rw [ha];exact qq_ (e:=(28,37,I L p)) 14 rfl rfl (hon 28 (by kernel_rfl)) rfl
   replace ha:=D ha;have Ja:=D Q_BK799;have HB:=D Q_HB;have Xb:=D (Q_HO805 (hon 12 (by kernel_rfl)) (hoff 30 (by kernel_rfl)));have Jc:=D (Q_HO808 (hon 16 (by kernel_rfl)) (hoff 30 (by kernel_rfl)));have Jd:=D (Q_HO814 (hon 25 (by kernel_rfl)) (hoff 30 (by kernel_rfl)));refine goes_ Try.func53 (by kernel_rfl) rfl #[I L p] (by rfl) rfl rfl (by first|(simp only [List.map_toArray,List.map_cons,List.map_nil,Act.eval,Array.getD_eq_getD_getElem?,Option.getD_some,aP];done)|(simp only [List.map_toArray,List.map_cons,List.map_nil,Act.eval,Array.getD_eq_getD_getElem?,Option.getD_some,aP];rfl)) ?_;with_reducible refine (impl_Put16.calls k p Mc _ A6.out).mono ?_
   rintro e aQ ⟨Mb,rfl,g,hb⟩;refine ⟨_,rfl,?_⟩;have G:=D (Kd.R_elder' (pR_ Xb.out) (Kd.R_base g) hb);have J:=D (Kd.R_elder' (pR_ Jc.out) (Kd.R_base g) hb);have O:=D (Kd.R_elder' (pR_ Jd.out) (Kd.R_base g) hb);have W:=D (Kd.R_lower (nw_ (nw_ (nw_ g (pR_ Xb.out)) (pR_ Jc.out)) (pR_ Jd.out)) (qh_ (pB_ HB.out)));have ar:=D (qb_ (pk_ Ja.out) hb);have aR:=D (qc_ (pB_ HB.out) hb)
   have z_HO802:=fun (h0_:b 8=true) (h1_:b 30=false)=>(show Kd.R (Kd.int .u8) 5 aQ w.heap.size (fun _=>True) Ma P from by first|exact (Kd.R_elder' (pR_ (Q_HO802 h0_ h1_)) (Kd.R_base g) hb)|exact Kd.R_mono (Kd.R_elder' (pR_ (Q_HO802 h0_ h1_)) (Kd.R_base g) hb) (fun _ h_=>by first|trivial|exact h_|exact h_.1))
   have z_HO811:=fun (h0_:b 21=true) (h1_:b 30=false)=>(show Kd.R (Kd.int .u8) 5 aQ w.heap.size (fun _=>True) Oa U from by first|exact (Kd.R_elder' (pR_ (Q_HO811 h0_ h1_)) (Kd.R_base g) hb)|exact Kd.R_mono (Kd.R_elder' (pR_ (Q_HO811 h0_ h1_)) (Kd.R_base g) hb) (fun _ h_=>by first|trivial|exact h_|exact h_.1))
   clear Xb;clear Jc;clear Jd;clear Ja;clear HB;have Xb:=G;have Jc:=J;have Jd:=O;have Xd:=W;have Ja:=ar;have HB:=aR;clear G J O W ar aR;refine hK.out _ _ ⟨Ma,Xa,Jb,Oa,Kb,Mb,Ob,Ua,c,(by rw [ha.out];exact qw_ 15 hb_ rfl rfl rfl),(pk_ Ja.out),(pB_ HB.out),z_HO802,fun _ _=>(pR_ (Kd.R_mono Xb.out (fun _ hk=>by first|exact ⟨hk.1.1,⟨hk.1.2,hk.2⟩⟩|trivial))),fun _ _=>(pR_ (Kd.R_mono Jc.out (fun _ hk=>by first|exact ⟨hk.1.1,⟨hk.1.2,hk.2⟩⟩|trivial))),z_HO811,fun _ _=>(pR_ (Kd.R_mono Jd.out (fun _ hk=>by first|exact ⟨hk.1.1,⟨hk.1.2,hk.2⟩⟩|trivial))),fun _ _=>(pR_ (Kd.R_mono Xd.out (fun _ hk=>by first|exact ⟨hk.1.1.2,⟨hk.1.2,hk.2⟩⟩|trivial))),fun h0_=>absurd ((hoff 30 (by kernel_rfl)).symm.trans h0_) (by decide),fun h0_=>absurd ((hoff 31 (by kernel_rfl)).symm.trans h0_) (by decide),fun h0_=>absurd ((hoff 32 (by kernel_rfl)).symm.trans h0_) (by decide)⟩
  refine qp_ ?_ ?_
  ·rintro b a w' ⟨Ma,Xa,Jb,Oa,Kb,Mb,Ob,Ua,c,ha,Q_BK799,Q_HB,Q_HO802,Q_HO805,Q_HO808,Q_HO811,Q_HO814,Q_HO817,Q_HO820,Q_HO823,Q_X32_⟩ hb_ hon hoff
   refine ⟨_,rfl,fun K hK=>?_⟩
   have bJ:a.tmps[17]?=some (Ma):=by rw [ha];exact qq_ (e:=(8,17,Ma)) 4 rfl rfl (hon 8 (by kernel_rfl)) rfl
   have bK:a.tmps[21]?=some (Xa):=by rw [ha];exact qq_ (e:=(12,21,Xa)) 6 rfl rfl (hon 12 (by kernel_rfl)) rfl
   have bL:a.tmps[25]?=some (Jb):=by rw [ha];exact qq_ (e:=(16,25,Jb)) 8 rfl rfl (hon 16 (by kernel_rfl)) rfl
   have bM:a.tmps[30]?=some (Oa):=by rw [ha];exact qq_ (e:=(21,30,Oa)) 11 rfl rfl (hon 21 (by kernel_rfl)) rfl
   have bN:a.tmps[34]?=some (Kb):=by rw [ha];exact qq_ (e:=(25,34,Kb)) 13 rfl rfl (hon 25 (by kernel_rfl)) rfl
   have bO:a.tmps[38]?=some (Mb):=by rw [ha];exact qq_ (e:=(29,38,Mb)) 15 rfl rfl (hon 29 (by kernel_rfl)) rfl
   replace ha:=D ha;have Ja:=D Q_BK799;have HB:=D Q_HB;have Od:=D (Q_HO802 (hon 8 (by kernel_rfl)) hb_);have Xb:=D (Q_HO805 (hon 12 (by kernel_rfl)) hb_);have Jc:=D (Q_HO808 (hon 16 (by kernel_rfl)) hb_);have Ud:=D (Q_HO811 (hon 21 (by kernel_rfl)) hb_);have Jd:=D (Q_HO814 (hon 25 (by kernel_rfl)) hb_);have Xd:=D (Q_HO817 (hon 29 (by kernel_rfl)) hb_);obtain ⟨Ke,Me,aS⟩:=Kd.R_slice Od.out;(first|subst aS|obtain ⟨rfl,rfl⟩:=qas_ aS);obtain ⟨Oe,Ue,aT⟩:=Kd.R_slice Xb.out;(first|subst aT|obtain ⟨rfl,rfl⟩:=qas_ aT);obtain ⟨Xe,Jf,aU⟩:=Kd.R_slice Jc.out;(first|subst aU|obtain ⟨rfl,rfl⟩:=qas_ aU);obtain ⟨Kf,Mf,aV⟩:=Kd.R_slice Ud.out;(first|subst aV|obtain ⟨rfl,rfl⟩:=qas_ aV);obtain ⟨Of,Uf,aW⟩:=Kd.R_slice Jd.out;(first|subst aW|obtain ⟨rfl,rfl⟩:=qas_ aW);obtain ⟨Xf,Jg,aX⟩:=Kd.R_slice Xd.out;(first|subst aX|obtain ⟨rfl,rfl⟩:=qas_ aX);refine Kd.N_lit_step (Kd.slice 5 (Kd.int .u8)) _ 22 ?hg (N':=39) ?hd (xs:=([P,Oc,Uc,U,Kc,Mc]:List (List Int))) (inner:=[Y Ke P.length Me,Y Oe Oc.length Ue,Y Xe Uc.length Jf,Y Kf U.length Mf,Y Of Kc.length Uf,Y Xf Mc.length Jg]) (ok:=(fun k_=>k_≠Ka)) (okp:=(fun k_=>k_≠Ka)) ?hr ?hp (fun _ hk=>hk) ((show ∀ k_,w'.heap.size≤k_→(fun k_=>k_≠Ka) k_ from fun k_ hk=>Kd.freshB (pk_ Ja.out) k_ hk) _ (Nat.le_refl _)) (Below.refl _ _) (Nat.le_refl _) (by simp) ?_;(case hd=>rfl);(case hg=>rfl);(case hr=>first|(go_simp;done)|(go_simp;rfl));(case hp=>exact (Reps.one (show Kd.FK (Kd.slice 5 (Kd.int .u8)) _ _ P [Y Ke P.length Me] from (Kd.FK_slice_mk (Kd.R_reads' (Kd.R_mono (ok':=(fun k_=>k_≠Ka)) (Kd.R_types (Od.out) Ja.out (by decide)) (fun k_ hk=>hk.2))).2.1 (by (with_reducible repeat (first|apply Kd.F_alloc|apply Kd.F_drewN|apply Kd.F_drew));exact Kd.R_F (Kd.R_mono (ok':=(fun k_=>k_≠Ka)) (Kd.R_types (Od.out) Ja.out (by decide)) (fun k_ hk=>hk.2))))) (Reps.one (show Kd.FK (Kd.slice 5 (Kd.int .u8)) _ _ Oc [Y Oe Oc.length Ue] from (Kd.FK_slice_mk (Kd.R_reads' (Kd.R_mono (ok':=(fun k_=>k_≠Ka)) (Kd.R_types (Xb.out) Ja.out (by decide)) (fun k_ hk=>hk.2))).2.1 (by (with_reducible repeat (first|apply Kd.F_alloc|apply Kd.F_drewN|apply Kd.F_drew));exact Kd.R_F (Kd.R_mono (ok':=(fun k_=>k_≠Ka)) (Kd.R_types (Xb.out) Ja.out (by decide)) (fun k_ hk=>hk.2))))) (Reps.one (show Kd.FK (Kd.slice 5 (Kd.int .u8)) _ _ Uc [Y Xe Uc.length Jf] from (Kd.FK_slice_mk (Kd.R_reads' (Kd.R_mono (ok':=(fun k_=>k_≠Ka)) (Kd.R_types (Jc.out) Ja.out (by decide)) (fun k_ hk=>hk.2))).2.1 (by (with_reducible repeat (first|apply Kd.F_alloc|apply Kd.F_drewN|apply Kd.F_drew));exact Kd.R_F (Kd.R_mono (ok':=(fun k_=>k_≠Ka)) (Kd.R_types (Jc.out) Ja.out (by decide)) (fun k_ hk=>hk.2))))) (Reps.one (show Kd.FK (Kd.slice 5 (Kd.int .u8)) _ _ U [Y Kf U.length Mf] from (Kd.FK_slice_mk (Kd.R_reads' (Kd.R_mono (ok':=(fun k_=>k_≠Ka)) (Kd.R_types (Ud.out) Ja.out (by decide)) (fun k_ hk=>hk.2))).2.1 (by (with_reducible repeat (first|apply Kd.F_alloc|apply Kd.F_drewN|apply Kd.F_drew));exact Kd.R_F (Kd.R_mono (ok':=(fun k_=>k_≠Ka)) (Kd.R_types (Ud.out) Ja.out (by decide)) (fun k_ hk=>hk.2))))) (Reps.one (show Kd.FK (Kd.slice 5 (Kd.int .u8)) _ _ Kc [Y Of Kc.length Uf] from (Kd.FK_slice_mk (Kd.R_reads' (Kd.R_mono (ok':=(fun k_=>k_≠Ka)) (Kd.R_types (Jd.out) Ja.out (by decide)) (fun k_ hk=>hk.2))).2.1 (by (with_reducible repeat (first|apply Kd.F_alloc|apply Kd.F_drewN|apply Kd.F_drew));exact Kd.R_F (Kd.R_mono (ok':=(fun k_=>k_≠Ka)) (Kd.R_types (Jd.out) Ja.out (by decide)) (fun k_ hk=>hk.2))))) (Reps.one (show Kd.FK (Kd.slice 5 (Kd.int .u8)) _ _ Mc [Y Xf Mc.length Jg] from (Kd.FK_slice_mk (Kd.R_reads' (Kd.R_mono (ok':=(fun k_=>k_≠Ka)) (Kd.R_types (Xd.out) Ja.out (by decide)) (fun k_ hk=>hk.2))).2.1 (by (with_reducible repeat (first|apply Kd.F_alloc|apply Kd.F_drewN|apply Kd.F_drew));exact Kd.R_F (Kd.R_mono (ok':=(fun k_=>k_≠Ka)) (Kd.R_types (Xd.out) Ja.out (by decide)) (fun k_ hk=>hk.2))))) (Reps.none _ _))))))))
   intro Ob bP au hb hg_ hnew_;clear hg_ hnew_;(first | rw [← aJ.out] at au | (simp only [Int.reduceToNat] at au;rw [← aJ.out] at au))
   have n_:=an_ (Kd.N_lower au (qh_ (pB_ HB.out)))<|an_ (qb_ (pk_ Ja.out) hb)<|D (qc_ (pB_ HB.out) hb)
   clear Ja HB Od Xb Jc Ud Jd Xd;obtain ⟨Md,Ja,HB⟩:=n_;clear hb au;refine hK.out _ _ ⟨Y Ke P.length Me,Y Oe Oc.length Ue,Y Xe Uc.length Jf,Y Kf U.length Mf,Y Of Kc.length Uf,Y Xf Mc.length Jg,Ob,Ua,c,(by rw [ha.out];exact qw_ 16 hb_ rfl rfl rfl),(pk_ Ja.out),(pB_ HB.out),fun _ h1_=>absurd ((qah_ b 30).symm.trans h1_) (by decide),fun _ h1_=>absurd ((qah_ b 30).symm.trans h1_) (by decide),fun _ h1_=>absurd ((qah_ b 30).symm.trans h1_) (by decide),fun _ h1_=>absurd ((qah_ b 30).symm.trans h1_) (by decide),fun _ h1_=>absurd ((qah_ b 30).symm.trans h1_) (by decide),fun _ h1_=>absurd ((qah_ b 30).symm.trans h1_) (by decide),fun _=>(pN_ Md.out),fun h0_=>absurd ((hoff 31 (by kernel_rfl)).symm.trans h0_) (by decide),fun h0_=>absurd ((hoff 32 (by kernel_rfl)).symm.trans h0_) (by decide)⟩
  refine qp_ ?_ ?_
  ·rintro b a w' ⟨Ma,Xa,Jb,Oa,Kb,Mb,Ob,Ua,c,ha,Q_BK799,Q_HB,Q_HO802,Q_HO805,Q_HO808,Q_HO811,Q_HO814,Q_HO817,Q_HO820,Q_HO823,Q_X32_⟩ hb_ hon hoff
   refine ⟨_,rfl,fun K hK=>?_⟩
   have e39:a.tmps[39]?=some (Ob):=by rw [ha];exact qq_ (e:=(30,39,Ob)) 16 rfl rfl (hon 30 (by kernel_rfl)) rfl
   replace ha:=D ha;have Ja:=D Q_BK799;have HB:=D Q_HB;have Md:=D (Q_HO820 (hon 30 (by kernel_rfl)));obtain ⟨Kg,Mg,aY⟩:=Kd.N_slice Md.out;(first|subst aY|obtain ⟨rfl,rfl⟩:=qas_ aY);refine goes_ Try.func51 (by kernel_rfl) rfl #[Y Kg ap.length Mg] (by rfl) rfl rfl Z0 ?_;with_reducible refine (slices_Concat_byte_byte.calls k _ _ ap Ub _ ?side1 ?side2 A7.out).mono ?_
   (case side1=>exact pC_ ((Kd.N_reads' Md.out).2.2));(case side2=>exact (Kd.N_reads' Md.out).2.1);rintro e bo ⟨Ua,rfl,g,hb⟩;refine ⟨_,rfl,?_⟩
   have n_:=an_ (Kd.N_elder' (pN_ Md.out) (Kd.R_base g) hb)<|an_ (Kd.R_lower g (qh_ (pB_ HB.out)))<|an_ (qb_ (pk_ Ja.out) hb)<|D (qc_ (pB_ HB.out) hb)
   clear Md Ja HB;obtain ⟨Md,Je,Ja,HB⟩:=n_;refine hK.out _ _ ⟨Ma,Xa,Jb,Oa,Kb,Mb,Y Kg ap.length Mg,Ua,c,(by rw [ha.out];exact qw_ 17 hb_ rfl rfl rfl),(pk_ Ja.out),(pB_ HB.out),fun _ h1_=>absurd ((hon 30 (by kernel_rfl)).symm.trans h1_) (by decide),fun _ h1_=>absurd ((hon 30 (by kernel_rfl)).symm.trans h1_) (by decide),fun _ h1_=>absurd ((hon 30 (by kernel_rfl)).symm.trans h1_) (by decide),fun _ h1_=>absurd ((hon 30 (by kernel_rfl)).symm.trans h1_) (by decide),fun _ h1_=>absurd ((hon 30 (by kernel_rfl)).symm.trans h1_) (by decide),fun _ h1_=>absurd ((hon 30 (by kernel_rfl)).symm.trans h1_) (by decide),fun _=>(pN_ (Kd.N_mono Md.out (fun _ hk=>by first|exact ⟨hk.2,hk.1⟩|exact hk.1|exact hk.2))),fun _=>(pR_ Je.out),fun h0_=>absurd ((hoff 32 (by kernel_rfl)).symm.trans h0_) (by decide)⟩
  refine qp_ ?_ ?_
  ·rintro b a w' ⟨Ma,Xa,Jb,Oa,Kb,Mb,Ob,Ua,c,ha,Q_BK799,Q_HB,Q_HO802,Q_HO805,Q_HO808,Q_HO811,Q_HO814,Q_HO817,Q_HO820,Q_HO823,Q_X32_⟩ hb_ hon hoff
   refine ⟨_,rfl,fun K hK=>?_⟩
   have bQ:a.tmps[40]?=some (Ua):=by rw [ha];exact qq_ (e:=(31,40,Ua)) 17 rfl rfl (hon 31 (by kernel_rfl)) rfl
   replace ha:=D ha;have Ja:=D Q_BK799;have HB:=D Q_HB;have Md:=D (Q_HO820 (hon 30 (by kernel_rfl)));have Je:=D (Q_HO823 (hon 31 (by kernel_rfl)));refine qav_ (w1:=w') (v:=Ua) (by rfl) rfl ?_ ?_
   ·go_simp
    (try simp only [i64_w])
    try rfl
   refine hK.out _ _ ⟨Ma,Xa,Jb,Oa,Kb,Mb,Ob,Ua,(Ua),(by rw [ha.out];exact qw_ 18 hb_ rfl rfl rfl),Q_BK799,Q_HB,fun _ h1_=>absurd ((hon 30 (by kernel_rfl)).symm.trans h1_) (by decide),fun _ h1_=>absurd ((hon 30 (by kernel_rfl)).symm.trans h1_) (by decide),fun _ h1_=>absurd ((hon 30 (by kernel_rfl)).symm.trans h1_) (by decide),fun _ h1_=>absurd ((hon 30 (by kernel_rfl)).symm.trans h1_) (by decide),fun _ h1_=>absurd ((hon 30 (by kernel_rfl)).symm.trans h1_) (by decide),fun _ h1_=>absurd ((hon 30 (by kernel_rfl)).symm.trans h1_) (by decide),Q_HO820,Q_HO823,fun _=>rfl⟩
  exact steps_nil
 rintro b a bo hall ⟨Ma,Xa,Jb,Oa,Kb,Mb,Ob,Ua,c,ha,Q_BK799,Q_HB,Q_HO802,Q_HO805,Q_HO808,Q_HO811,Q_HO814,Q_HO817,Q_HO820,Q_HO823,Q_X32_⟩
 clear Ja HB
 have aZ:=hall 1 (by kernel_rfl)
 have a1:=hall 2 (by kernel_rfl)
 have a2:=hall 6 (by kernel_rfl)
 have a3:=hall 7 (by kernel_rfl)
 have a4:=hall 8 (by kernel_rfl)
 have a5:=hall 11 (by kernel_rfl)
 have a6:=hall 12 (by kernel_rfl)
 have a7:=hall 15 (by kernel_rfl)
 have a8:=hall 16 (by kernel_rfl)
 have a9:=hall 19 (by kernel_rfl)
 have ba:=hall 20 (by kernel_rfl)
 have bb:=hall 21 (by kernel_rfl)
 have bc:=hall 24 (by kernel_rfl)
 have bd:=hall 25 (by kernel_rfl)
 have be:=hall 28 (by kernel_rfl)
 have bf:=hall 29 (by kernel_rfl)
 have ay:=hall 30 (by kernel_rfl)
 have az:=hall 31 (by kernel_rfl)
 have aA:=hall 32 (by kernel_rfl)
 subst ha
 obtain rfl:=Q_X32_ aA
 simp only [qan_,aZ,a1,a2,a3,a4,a5,a6,a7,a8,a9,ba,bb,bc,bd,be,bf,ay,az,aA,if_true,Act.put,List.setIfInBounds_toArray,List.set_cons_zero,List.set_cons_succ]
 have Ja:=D Q_BK799
 clear Q_BK799
 have HB:=D Q_HB
 clear Q_HB
 clear Q_HO802
 clear Q_HO805
 clear Q_HO808
 clear Q_HO811
 clear Q_HO814
 clear Q_HO817
 have Md:=D (Q_HO820 ay)
 clear Q_HO820
 have Je:=D (Q_HO823 az)
 clear Q_HO823
 clear hall aZ a1 a2 a3 a4 a5 a6 a7 a8 a9 ba bb bc bd be bf ay az aA
 obtain ⟨Ug,Xg,bp⟩:=Kd.R_slice Je.out
 subst bp
 try go_wp2_with (first|((with_reducible refine gld_ 28 rfl ?_);(first|refine la28o1_ ?_|refine la28o6_ ?_))|((with_reducible refine gld_ 3 rfl ?_);refine lc3_ ?_)|((with_reducible refine gst_ 32 rfl ?_);refine sa32_ ?_)|((with_reducible refine gld_ 32 rfl ?_);refine la32_ ?_))
 go_loopg [6,44] k (fun kq v6 bq w'=>∃ (av:Int) (Xc:Int),v6=I L av∧bq=I L Xc∧Aside0 (impl_hashOf.l0 kq av Ub (Ub.length:Int) Xc=some r)∧Aside0 (kq≤k)∧Aside0 (Kd.R (Kd.int .u8) 5 w' w.heap.size (fun _=>True) (Y Ug Ub.length Xg) Ub)∧Aside0 (w'.heap[Ka]?=some (.cells #[I L m,I L d,I L q,I L s,I L u,I L x,I L y,I L z,I L A,I L B,I L E,I L l,I L o,I L p] 32 (0,0)))∧Aside0 (Below w.heap.size w w'))
 case atStart=>exact ⟨(a0),(0),Z35,Z35,H',⟨Nat.le_refl _⟩,⟨pR_ Je.out⟩,⟨pk_ Ja.out⟩,⟨pB_ HB.out⟩⟩
 case round =>
  clear H'
  (try clear c1);(try clear c2);(try clear p2);(try clear c3);(try clear c4);(try clear c5);(try clear c6);(try clear c7);(try clear c8);(try clear c9);(try clear c10);(try clear bT);(try clear bU);(try clear bV)
  obtain ⟨av,Xc,rfl,rfl,HA,bg,Og,Ja,HB⟩:=hrel
  cases gk with
  | zero=>exact absurd HA.out (by simp [impl_hashOf.l0])
  | succ k1 =>
   have H:=HA.out;clear HA;simp only [impl_hashOf.l0] at H
   by_cases am:Xc < (Ub.length:Int)
   ·rw [if_pos am] at H
    have bu:decide (Xc < (Ub.length:Int))=true:=decide_eq_true am;clear am
    by_cases aw:0≤Xc
    ·rw [if_pos aw] at H
     have bW:decide (0≤Xc)=true:=decide_eq_true aw;clear aw
     by_cases ax:Xc < (Ub.length:Int)
     ·rw [if_pos ax] at H
      have bX:decide (Xc < (Ub.length:Int))=true:=decide_eq_true ax;clear ax;have H':=D H;clear H;have aB:0≤(Xc:Int):=od_ Z22;have aC:Xc < (Ub.length:Int):=od_ Z22;obtain ⟨bY,bv,bZ⟩:=Kd.at_int (Kd.R_reads' Og.out).2.2 Xc aB aC;cases bv;replace aB:=eq_true aB;replace aC:=eq_true aC
      go_wp2_with (first|((with_reducible refine gld_ 28 rfl ?_);(first|refine la28o1_ ?_|refine la28o6_ ?_))|((with_reducible refine gld_ 3 rfl ?_);refine lc3_ ?_)|((with_reducible refine gst_ 32 rfl ?_);refine sa32_ ?_)|((with_reducible refine gld_ 32 rfl ?_);refine la32_ ?_))
      go_roundg k1
      case measure=>have:=bg.out;omega
      case rel=>exact ⟨(Int.tmod (wrap64 ((Go.bits .xor .i64 av (wrap64 (rd Ub Xc))) * 16777619)) 4294967296),(wrap64 (Xc+1)),Z35,Z35,H',⟨by have:=bg.out;omega⟩,⟨pR_ Og.out⟩,⟨pk_ Ja.out⟩,⟨pB_ HB.out⟩⟩
     ·rw [if_neg ax] at H
      exact absurd H (by simp)
    ·rw [if_neg aw] at H
     exact absurd H (by simp)
   ·rw [if_neg am] at H
    have bu:decide (Xc < (Ub.length:Int))=false:=decide_eq_false am;clear am;obtain rfl:=Option.some.inj H
    go_wp2_with (first|((with_reducible refine gld_ 28 rfl ?_);(first|refine la28o1_ ?_|refine la28o6_ ?_))|((with_reducible refine gld_ 3 rfl ?_);refine lc3_ ?_)|((with_reducible refine gst_ 32 rfl ?_);refine sa32_ ?_)|((with_reducible refine gld_ 32 rfl ?_);refine la32_ ?_))
    go_ret;exact ⟨er_,pB_ HB.out⟩
end Go.Proofs.Yteahaehbciccmaa.PFnPutDrop
